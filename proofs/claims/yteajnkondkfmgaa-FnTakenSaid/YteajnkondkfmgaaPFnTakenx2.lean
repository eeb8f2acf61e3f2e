-- Made by a program of this session out of the translation. Lean checks it.
import Derived.Test.YteajnkondkfmgaaPFnTakenx0
namespace Go.Proofs.Yteajnkondkfmgaa.PFnTaken
open Go.RowKit Go.Proofs.YteajnkondkfmgaaW.PrintWords Go.Proofs.YteajnkondkfmgaaW.PrintLast Go.Proofs.YteajnkondkfmgaaW.PrintMore
attribute [local go_sem] max2_int min2_int max_two min_two max_three min_three max_four min_four   -- for this text's walks alone
set_option linter.unusedVariables false
set_option linter.unusedSimpArgs false

/-! ### laws_big: function 15 -/
def laws_big.f (l0 : List Int) : Option (Bool) := some (decide ((l0.length : Int) > 1048576))
set_option maxHeartbeats 8000000 in
set_option maxRecDepth 100000 in
theorem laws_big.calls (A0 : Option Addr) (c0 : Nat) (l0 : List Int) (r : Bool) (w : World) (hr0 : Kd.C (Kd.int .u8) w A0 l0.length l0) (hc0 : l0.length ≤ c0) (h : laws_big.f l0 = some r) :
  Calls Try.prog 15 #[.slice A0 l0.length c0] w fun e w' => e = .returned (.bool r) ∧ Drawn0 w w' := by
 have HR0 := aM hr0
 have HC0 := aM hc0
 clear hr0 hc0
 have H : (some (decide ((l0.length : Int) > 1048576))) = some r := h
 clear h
 obtain rfl := Option.some.inj H
 simp only [Option.some.injEq, Prod.mk.injEq] at H
 obtain ⟨rfl⟩ := H
 go_enter Try.func15, Try.ntmps15
 go_wp2
 go_ret
 exact ⟨by first | rfl | (simp; done) | (simp [*]; done), by repeat (first | exact Drawn0.refl _ | apply Drawn0.step)⟩

/-! ### impl_in: function 64 -/
def impl_in.f (a0 : Int) (a1 : Int) (a2 : Int) : Option (Bool) := if a0 ≥ a1 then (some (decide (a0 ≤ a2))) else (some false)
set_option maxHeartbeats 8000000 in
set_option maxRecDepth 100000 in
theorem impl_in.calls (a0 : Int) (a1 : Int) (a2 : Int) (r : Bool) (w : World) (h : impl_in.f a0 a1 a2 = some r) :
  Calls Try.prog 64 #[.int .i64 a0, .int .i64 a1, .int .i64 a2] w fun e w' => e = .returned (.bool r) ∧ Drawn0 w w' := by
 have H : (if a0 ≥ a1 then (some (decide (a0 ≤ a2))) else (some false)) = some r := h
 clear h
 by_cases c4 : a0 ≥ a1
 {
 rw [if_pos c4] at H
 have c4b0 := decide_eq_true c4
 clear c4
 obtain rfl := Option.some.inj H
 simp only [Option.some.injEq, Prod.mk.injEq] at H
 obtain ⟨rfl⟩ := H
 go_enter Try.func64, Try.ntmps64
 go_wp2
 go_ret
 exact ⟨by first | rfl | (simp; done) | (simp [*]; done), by repeat (first | exact Drawn0.refl _ | apply Drawn0.step)⟩
 }
 {
 rw [if_neg c4] at H
 have c4b0 := decide_eq_false c4
 clear c4
 obtain rfl := Option.some.inj H
 simp only [Option.some.injEq, Prod.mk.injEq] at H
 obtain ⟨rfl⟩ := H
 go_enter Try.func64, Try.ntmps64
 go_wp2
 go_ret
 exact ⟨by first | rfl | (simp; done) | (simp [*]; done), by repeat (first | exact Drawn0.refl _ | apply Drawn0.step)⟩

 }
/-! ### impl_copyStock: function 65 -/
def impl_copyStock.l0 : Nat → List (S79) → Int → Int → List (S79) → Option ((List (S79)))
 | 0, _, _, _, _ => none
 | k + 1, x7, x8, x9, x104000 => if x9 < x8 then (if 0 ≤ x9 then (if x9 < (x7.length : Int) then (if ([] : List (S72)).length + ((rd_T79 x7 x9).f2).length < 5864062014805 then (if x104000.length < 3518437208883 then (impl_copyStock.l0 k x7 x8 (wrap64 (x9 + 1)) (x104000 ++ [(⟨(rd_T79 x7 x9).f0, (rd_T79 x7 x9).f1, (([] : List (S72)) ++ ((rd_T79 x7 x9).f2))⟩ : S79)])) else (none)) else (none)) else (none)) else (none)) else (some x104000)
def impl_copyStock.f (k : Nat) (l0_0 : List (S79)) : Option ((List (S79))) := impl_copyStock.l0 k l0_0 (l0_0.length : Int) 0 ([] : List (S79))
theorem impl_copyStock.mono_l : ∀ k, (∀ y0 y1 y2 y3, LeO (impl_copyStock.l0 k y0 y1 y2 y3) (impl_copyStock.l0 (k + 1) y0 y1 y2 y3))
 | 0 => fun _ _ _ _ r h => by simp [impl_copyStock.l0] at h
 | k + 1 => by
  have ih0 := impl_copyStock.mono_l k
  {
  intro y0 y1 y2 y3
  unfold impl_copyStock.l0
  exact qL
  }
theorem impl_copyStock.mono : ∀ a0 k, LeO (impl_copyStock.f k a0) (impl_copyStock.f (k + 1) a0) := by
 intro a0 k
 have ih0 := impl_copyStock.mono_l k
 unfold impl_copyStock.f
 exact qL
set_option maxHeartbeats 8000000 in
set_option maxRecDepth 100000 in
theorem impl_copyStock.calls (k : Nat) (A0_0 : Option Addr) (c0_0 : Nat) (l0_0 : List (S79)) (r : List (S79)) (w : World) (hr0_0 : Kd.C k79 w A0_0 l0_0.length l0_0) (hc0_0 : l0_0.length ≤ c0_0) (h : impl_copyStock.f k l0_0 = some r) :
  Calls Try.prog 65 #[.agg #[.slice A0_0 l0_0.length c0_0]] w fun e w' => ∃ v0_ : Value, e = .returned (.agg #[v0_]) ∧ Kd.S k79 79 w' w.heap.size (fun _ => True) v0_ r ∧ Below w.heap.size w w' := by
 have hu26 := Try.underlying26
 have hu79 := Try.underlying79
 have HR0_0 := aM hr0_0
 have HC0_0 := aM hc0_0
 clear hr0_0 hc0_0
 have HB := aM (Below.refl w.heap.size w)
 have H : (impl_copyStock.l0 k l0_0 (l0_0.length : Int) 0 ([] : List (S79))) = some r := h
 clear h
 have H' := aM H
 clear H
 go_enter Try.func65, Try.ntmps65
 go_wp2_with (first | ((with_reducible refine gate_dst (N := 1) rfl ?_); refine bx_ 1 #[.slice A0_0 l0_0.length c0_0] 26 ?_; intro gb101 hg w2 hbox hb; have BK101 := aM (hbox); have GW101 := aM (bz_ w hg qz1); have GE101 := GW101; replace HB := bS_ hb; clear hb hbox hg) | ((with_reducible refine gate_dst (N := 2) rfl ?_); refine bx_ 2 #[.slice none 0 0] 26 ?_; intro gb102 hg w3 hbox hb; have BK102 := aM (hbox); have GW102 := aM (bz_ w hg qz1); have GE102 := GW102; replace HB := bS_ hb; obtain ⟨NB101_102, NB102_101⟩ := nb_ hg (bk_ BK101.out); replace BK101 := bB_ BK101 hb; clear hb hbox hg) | ((with_reducible refine gate_dst (N := 3) rfl ?_); refine bx_ 3 #[.slice none 0 0] 26 ?_; intro gb103 hg w4 hbox hb; have BK103 := aM (hbox); have GW103 := aM (bz_ w hg qz1); have GE103 := GW103; replace HB := bS_ hb; obtain ⟨NB101_103, NB103_101⟩ := nb_ hg (bk_ BK101.out); replace BK101 := bB_ BK101 hb; obtain ⟨NB102_103, NB103_102⟩ := nb_ hg (bk_ BK102.out); replace BK102 := bB_ BK102 hb; clear hb hbox hg; have hnb5 := NB101_102.out; have hnc5 := NB102_101.out; have hnb6 := NB101_103.out; have hnc6 := NB103_101.out; obtain ⟨hcz7_0, hfz7_0⟩ := bf_ BK101.out))
 go_loopg [9] k (fun kq v9 w' => ∃ (x9_1 : Int) (x104000_1 : List (S79)) (u104000 : Value), v9 = .int .i64 x9_1 ∧ Aside0 (impl_copyStock.l0 kq l0_0 (l0_0.length : Int) x9_1 x104000_1 = some r) ∧ Aside0 (kq ≤ k) ∧ Aside0 (Kd.S k79 79 w' w.heap.size (fun _ => True) u104000 x104000_1) ∧ Aside0 (w'.heap[gb101]? = some (.cells #[(.slice A0_0 l0_0.length c0_0)] 26 (0, 0))) ∧ Aside0 (w'.heap[gb102]? = some (.cells #[(.slice none 0 0)] 26 (0, 0))) ∧ Aside0 (w'.heap[gb103]? = some (.cells #[u104000] 26 (0, 0))) ∧ Aside0 (Below w.heap.size w w'))
 case atStart => exact ⟨(0), (([] : List (S79))), (.slice none 0 0), qz6, H', ⟨Nat.le_refl _⟩, ⟨by first | exact Kd.S_nil _ _ _ _ _ | exact Kd.N_nil _ _ _ _ _ | exact Kd.V_nil _ _ _ _ _ | exact Kd.Q_nil _ _ _ _ _ | exact Kd.R_nil _ _ _ _ _⟩, ⟨bk_ BK101.out⟩, ⟨bk_ BK102.out⟩, ⟨bk_ BK103.out⟩, ⟨qz1⟩⟩
 case round =>
  clear H'
  try clear p2
  try clear c5
  try clear c6
  try clear hcz7_0
  try clear hfz7_0
  obtain ⟨x9_1, x104000_1, u104000, rfl, HA, HK1, HO_104000, BK101, BK102, BK103, HB⟩ := hrel
  cases gk with
  | zero => exact absurd HA.out (by simp [impl_copyStock.l0])
  | succ k1 =>
   have H := HA.out
   clear HA
   simp only [impl_copyStock.l0] at H
   by_cases c8 : x9_1 < (l0_0.length : Int)
   {
   rw [if_pos c8] at H
   have c8b0 := decide_eq_true c8
   clear c8
   by_cases c9 : 0 ≤ x9_1
   {
   rw [if_pos c9] at H
   have c9b0 := decide_eq_true c9
   clear c9
   by_cases c10 : x9_1 < (l0_0.length : Int)
   {
   rw [if_pos c10] at H
   have c10b0 := decide_eq_true c10
   clear c10
   by_cases c11 : ([] : List (S72)).length + ((rd_T79 l0_0 x9_1).f2).length < 5864062014805
   {
   rw [if_pos c11] at H
   have LMc11 := aM c11
   clear c11
   obtain ⟨y106, hy106⟩ : ∃ y_ : List (S72), y_ = (([] : List (S72)) ++ ((rd_T79 l0_0 x9_1).f2)) := ⟨_, rfl⟩
   replace H : (if x104000_1.length < 3518437208883 then (impl_copyStock.l0 k1 l0_0 (l0_0.length : Int) (wrap64 (x9_1 + 1)) (x104000_1 ++ [(⟨(rd_T79 l0_0 x9_1).f0, (rd_T79 l0_0 x9_1).f1, y106⟩ : S79)])) else (none)) = some r := by first | (rw [hy106]; with_reducible exact H) | (have H2_ := (Option.bind_some _ _).symm.trans H; rw [hy106]; with_reducible exact H2_) | (have H2_ := (Option.bind_some _ _).symm.trans H; with_reducible exact H2_) | with_reducible exact H | (rw [hy106]; exact H) | exact H
   have Ny106 := aM hy106
   clear hy106
   by_cases c12 : x104000_1.length < 3518437208883
   {
   rw [if_pos c12] at H
   have LMc12 := aM c12
   clear c12
   obtain ⟨y109, hy109⟩ : ∃ y_ : List (S79), y_ = (x104000_1 ++ [(⟨(rd_T79 l0_0 x9_1).f0, (rd_T79 l0_0 x9_1).f1, y106⟩ : S79)]) := ⟨_, rfl⟩
   replace H : (impl_copyStock.l0 k1 l0_0 (l0_0.length : Int) (wrap64 (x9_1 + 1)) y109) = some r := by first | (rw [hy109]; with_reducible exact H) | (have H2_ := (Option.bind_some _ _).symm.trans H; rw [hy109]; with_reducible exact H2_) | (have H2_ := (Option.bind_some _ _).symm.trans H; with_reducible exact H2_) | with_reducible exact H | (rw [hy109]; exact H) | exact H
   have Ny109 := aM hy109
   clear hy109
   have H' := aM H
   clear H
   have p104 : 0 ≤ (x9_1 : Int) := dt_
   have q104 : x9_1 < (l0_0.length : Int) := dt_
   obtain ⟨ad104, A104_2, c104_2, e104, hx104_0, hx104_1, hx104_2, hl104_2, hi104_2⟩ := at_T79 HR0_0.out x9_1 p104 q104
   cases e104
   replace hx104_0 := cB_ hx104_0
   replace hx104_1 := cB_ hx104_1
   replace hx104_2 := cB_ hx104_2
   have HR104_2 := aM hi104_2
   have HC104_2 := aM hl104_2
   clear hi104_2 hl104_2
   replace p104 := eq_true p104
   replace q104 := eq_true q104
   go_wp2_with (first | ((with_reducible refine gate_dst (N := 5) rfl ?_); refine bx_ 5 #[.int .i64 0, .int .i64 0, .slice none 0 0] 79 ?_; intro gb105 hg w13 hbox hb; replace HO_104000 := aM (Kd.S_below (Kd.S_elderB (rs_ HO_104000.out) gb105 (Nat.le_of_eq hg.symm)) hb); have BK105 := aM (hbox); have GW105 := aM (bz_ w hg qz1); have GE105 := GW105; replace HB := bS_ hb; obtain ⟨NB101_105, NB105_101⟩ := nb_ hg (bk_ BK101.out); replace BK101 := bB_ BK101 hb; obtain ⟨NB102_105, NB105_102⟩ := nb_ hg (bk_ BK102.out); replace BK102 := bB_ BK102 hb; obtain ⟨NB103_105, NB105_103⟩ := nb_ hg (bk_ BK103.out); replace BK103 := bB_ BK103 hb; clear hb hbox hg; have hnb14 := NB105_101.out; have hnc14 := NB101_105.out; have hnb15 := NB105_102.out; have hnc15 := NB102_105.out; have hnb16 := NB105_103.out; have hnc16 := NB103_105.out; obtain ⟨hcz17_0, hcz17_1, hcz17_2, hfz17_0, hfz17_1, hfz17_2⟩ := b6_ BK105.out) | ((with_reducible refine gate_builtin (b := .append) (xs := #[.const (.slice none 0 0), .tmp 14]) rfl ?_); at_builtin; refine Kd.R_append_rows k72 (w0 := w) w.heap.size rfl (.const (.slice none 0 0)) (.tmp 14) 77 72 (.agg #[(.int .i64 0), (.int .i64 0), (.int .i64 0)]) 24 rfl Try.underlying77 info72 rfl (by decide) (by omega) (.slice none 0 0) ([] : List (S72)) ((rd_T79 l0_0 x9_1).f2) _ _ _ (fun _ => True) (fun _ => False) rfl rfl ?aO ?aR (fun _ _ h => h) (fun _ h => h.elim) ?aF ?aB ?aS ?aL ?_; (case aR => exact Kd.C_below HR104_2.out qz1); (case aB => exact qz1); (case aF => exact (fun _ _ => trivial)); (case aO => exact ((Kd.R_nil _ _ _ _ (fun _ => True)))); (case aS => exact qz43); (case aL => have := LMc11.out; omega); intro v107 w18 ho hb hg hat; rw [← Ny106.out] at ho; replace HO_104000 := aM (Kd.S_after (Kd.S_apart_nil (by (with_reducible repeat (first | apply Kd.S_alloc | apply Kd.S_drewN | apply Kd.S_drew)); exact (Kd.S_mono (Kd.S_far (p := ⟨gb105, 2, none⟩) (Kd.S_far (p := ⟨gb105, 1, none⟩) (Kd.S_far (p := ⟨gb105, 0, none⟩) (Kd.S_mono HO_104000.out (fun k_ hk => (⟨hk, hk.2⟩ : _ ∧ k_ ≠ gb105))) (fun _ hk => hk.2) (.int .i64 ((rd_T79 l0_0 x9_1).f0))) (fun _ hk => hk.2) (.int .i64 ((rd_T79 l0_0 x9_1).f1))) (fun _ hk => hk.2) (.slice A104_2 ((rd_T79 l0_0 x9_1).f2).length c104_2)) (fun _ h_ => h_.1)))) hg hat); replace BK101 := aM (blk_grown (g := gb101) (o := .cells #[.slice (some ad104) l0_0.length c0_0] 26 (0, 0)) (bk2_ BK101.out) hg (by simp [Value.ownBlock])); replace BK102 := aM (blk_grown (g := gb102) (o := .cells #[.slice none 0 0] 26 (0, 0)) (bk2_ BK102.out) hg (by simp [Value.ownBlock])); replace BK103 := aM (blk_grown (g := gb103) (o := .cells #[u104000] 26 (0, 0)) (bk2_ BK103.out) hg (by simp [Value.ownBlock])); replace BK105 := aM (blk_grown (g := gb105) (o := .cells #[.int .i64 ((rd_T79 l0_0 x9_1).f0), .int .i64 ((rd_T79 l0_0 x9_1).f1), .slice A104_2 ((rd_T79 l0_0 x9_1).f2).length c104_2] 79 (0, 0)) (by (with_reducible repeat (first | refine blk_drewN ?_ _ | refine blk_drew ?_ | refine blk_alloc ?_ _)); refine blk_put (cs := #[.int .i64 ((rd_T79 l0_0 x9_1).f0), .int .i64 ((rd_T79 l0_0 x9_1).f1), .slice none 0 0]) ?_ 2 _ rfl; (with_reducible repeat (first | refine blk_drewN ?_ _ | refine blk_drew ?_ | refine blk_alloc ?_ _)); refine blk_put (cs := #[.int .i64 ((rd_T79 l0_0 x9_1).f0), .int .i64 0, .slice none 0 0]) ?_ 1 _ rfl; (with_reducible repeat (first | refine blk_drewN ?_ _ | refine blk_drew ?_ | refine blk_alloc ?_ _)); refine blk_put (cs := #[.int .i64 0, .int .i64 0, .slice none 0 0]) ?_ 0 _ rfl; exact bk_ BK105.out) hg (by simp [Value.ownBlock])); replace HB := aM (hb); have HO108 := aM (ho); clear ho hb hg hat; obtain ⟨Ao19, co19, eo19⟩ := Kd.R_slice HO108.out; subst eo19; obtain ⟨hcz20_0, hcz20_1, hcz20_2, hfz20_0, hfz20_1, hfz20_2⟩ := b6_ BK105.out) | ((with_reducible refine gate_store (t := 77) (p := 16) rfl ?_); refine store_event (t := 77) (p := 16) (v := ?vo_w21) (w1 := (w18.setCell ⟨gb105, 2, none⟩ (.slice Ao19 y106.length co19))) ?hg ?ho ?hn ?hr ?_; (case ho => rfl); (case hg => rfl); (case hn => rfl); (case hr => exact qz27); intro w21 hw; replace HO_104000 : Aside0 (Kd.S k79 79 w21 w.heap.size (fun k_ => some k_ ≠ (.slice Ao19 y106.length co19 : Value).ownBlock ∧ k_ ≠ gb105) u104000 x104000_1) := ⟨(by rw [hw]; exact (by (with_reducible repeat (first | apply Kd.S_alloc | apply Kd.S_drewN | apply Kd.S_drew)); exact Kd.S_mono (Kd.S_far (p := ⟨gb105, 2, none⟩) (Kd.S_mono HO_104000.out (fun k_ hk => (⟨hk, hk.1.2⟩ : _ ∧ k_ ≠ gb105))) (fun _ hk => hk.2) (.slice Ao19 y106.length co19)) (fun _ hk => ⟨hk.1.2, hk.1.1.2⟩)))⟩; replace HO108 : Aside0 (Kd.R k72 72 w21 w.heap.size (fun _ => True) (.slice Ao19 y106.length co19) y106) := ⟨(by rw [hw]; exact (by (with_reducible repeat (first | apply Kd.R_alloc | apply Kd.R_drewN | apply Kd.R_drew)); exact Kd.R_mono (Kd.R_far (p := ⟨gb105, 2, none⟩) (Kd.R_types HO108.out BK105.out (by decide)) (fun _ hk => hk.2) (.slice Ao19 y106.length co19)) (fun _ hk => trivial)))⟩; replace BK101 : Aside0 (w21.heap[gb101]? = some (.cells #[.slice (some ad104) l0_0.length c0_0] 26 (0, 0))) := ⟨(by rw [hw]; exact (bk2_ BK101.out))⟩; replace BK102 : Aside0 (w21.heap[gb102]? = some (.cells #[.slice none 0 0] 26 (0, 0))) := ⟨(by rw [hw]; exact (bk2_ BK102.out))⟩; replace BK103 : Aside0 (w21.heap[gb103]? = some (.cells #[u104000] 26 (0, 0))) := ⟨(by rw [hw]; exact (bk2_ BK103.out))⟩; replace BK105 : Aside0 (w21.heap[gb105]? = some (.cells #[.int .i64 ((rd_T79 l0_0 x9_1).f0), .int .i64 ((rd_T79 l0_0 x9_1).f1), .slice Ao19 y106.length co19] 79 (0, 0))) := ⟨(by rw [hw]; exact (by (with_reducible repeat (first | refine blk_drewN ?_ _ | refine blk_drew ?_ | refine blk_alloc ?_ _)); refine blk_put (cs := #[.int .i64 ((rd_T79 l0_0 x9_1).f0), .int .i64 ((rd_T79 l0_0 x9_1).f1), .slice A104_2 ((rd_T79 l0_0 x9_1).f2).length c104_2]) ?_ 2 _ rfl; exact bk_ BK105.out))⟩; replace HB : Aside0 (Below w.heap.size w w21) := ⟨(by rw [hw]; exact qz1)⟩; clear hw; have hnb22 := NB103_101.out; have hnc22 := NB101_103.out; have hnb23 := NB103_102.out; have hnc23 := NB102_103.out; obtain ⟨hcz24_0, hfz24_0⟩ := bf_ BK103.out; obtain ⟨hcz25_0, hcz25_1, hcz25_2, hfz25_0, hfz25_1, hfz25_2⟩ := b6_ BK105.out) | ((with_reducible refine gate_builtin (b := .append) (xs := #[.tmp 18, .tmp 20]) rfl ?_); at_builtin; refine Kd.S_append k79 (w0 := w) w.heap.size rfl (.tmp 18) (.tmp 20) 24 79 (.agg #[(.int .i64 0), (.int .i64 0), (.slice none 0 0)]) 40 rfl Try.underlying24 info79 rfl (by decide) (by omega) u104000 x104000_1 (⟨(rd_T79 l0_0 x9_1).f0, (rd_T79 l0_0 x9_1).f1, y106⟩ : S79) [.int .i64 ((rd_T79 l0_0 x9_1).f0), .int .i64 ((rd_T79 l0_0 x9_1).f1), .slice Ao19 y106.length co19] (fun k_ => k_ ≠ gb105) (fun k_ => some k_ = (.slice Ao19 y106.length co19 : Value).ownBlock) rfl rfl ?aP (fun k_ hk_ => ((Kd.R_mono (ok' := fun k_ => ((fun k_ => k_ ≠ gb105)) k_ ∧ some k_ ≠ (u104000 : Value).ownBlock) (Kd.R_types (Kd.R_apart' (HO108.out) (Kd.S_typed HO_104000.out) (by decide)) BK105.out (by decide)) (fun k_ hk => ⟨hk.2, hk.1.2⟩))).1 k_ hk_.symm) ?aF ?aO ?aB ?aS ?aL ?_; (case aP => exact k79_mkM _ _ _ (⟨(rd_T79 l0_0 x9_1).f0, (rd_T79 l0_0 x9_1).f1, y106⟩ : S79) (Kd.R_mono (Kd.R_tight rfl (Kd.R_mono (ok' := fun k_ => ((fun k_ => k_ ≠ gb105)) k_ ∧ some k_ ≠ (u104000 : Value).ownBlock) (Kd.R_types (Kd.R_apart' (HO108.out) (Kd.S_typed HO_104000.out) (by decide)) BK105.out (by decide)) (fun k_ hk => ⟨hk.2, hk.1.2⟩))) (fun _ h_ => h_))); (case aB => exact qz1); (case aF => exact (fun k_ hk => Kd.freshB (bk_ BK105.out) k_ hk)); (case aO => exact (by (with_reducible repeat (first | apply Kd.S_alloc | apply Kd.S_drewN | apply Kd.S_drew)); exact Kd.S_mono HO_104000.out (fun k_ hk => ⟨hk.2, fun e_ => hk.1 e_⟩))); (case aS => exact qz43); (case aL => have := LMc12.out; omega); intro v110 w26 ho hb hg hat; rw [← Ny109.out] at ho; replace BK101 := aM (blk_grown (bk_ BK101.out) hg (Kd.S_ne HO_104000.out BK101.out (by decide))); replace BK102 := aM (blk_grown (bk_ BK102.out) hg (Kd.S_ne HO_104000.out BK102.out (by decide))); replace BK103 := aM (blk_grown (bk_ BK103.out) hg (Kd.S_ne HO_104000.out BK103.out (by decide))); replace BK105 := aM (blk_grown (bk_ BK105.out) hg (Kd.S_away HO_104000.out (fun _ hk => hk.2))); replace HB := aM (hb); have HO111 := aM (ho); clear HO_104000 HO108; clear ho hb hg hat; obtain ⟨Ao27, co27, eo27⟩ := Kd.S_slice HO111.out; subst eo27; obtain ⟨hcz28_0, hfz28_0⟩ := bf_ BK103.out))
   go_roundg k1
   case measure => have := HK1.out; omega
   case rel => exact ⟨(wrap64 (x9_1 + 1)), (y109), (.slice Ao27 y109.length co27), qz6, H', ⟨by have := HK1.out; omega⟩, ⟨by (with_reducible repeat (first | apply Kd.S_alloc | apply Kd.S_drewN | apply Kd.S_drew)); exact Kd.S_mono (Kd.S_far (p := ⟨gb103, 0, none⟩) (Kd.S_types HO111.out BK103.out (by decide)) (fun _ hk => hk.2) (.slice Ao27 y109.length co27)) (fun _ hk => trivial)⟩, ⟨by (with_reducible repeat (first | refine blk_drewN ?_ _ | refine blk_drew ?_ | refine blk_alloc ?_ _)); refine blk_far ?_ NB101_103.out _; exact bk_ BK101.out⟩, ⟨by (with_reducible repeat (first | refine blk_drewN ?_ _ | refine blk_drew ?_ | refine blk_alloc ?_ _)); refine blk_far ?_ NB102_103.out _; exact bk_ BK102.out⟩, ⟨by (with_reducible repeat (first | refine blk_drewN ?_ _ | refine blk_drew ?_ | refine blk_alloc ?_ _)); refine blk_put (cs := #[u104000]) ?_ 0 _ rfl; exact bk_ BK103.out⟩, ⟨qz1⟩⟩
   }
   {
   exact an_ c12 H
   }
   }
   {
   exact an_ c11 H
   }
   }
   {
   exact an_ c10 H
   }
   }
   {
   exact an_ c9 H
   }
   }
   {
   rw [if_neg c8] at H
   have c8b0 := decide_eq_false c8
   clear c8
   obtain rfl := Option.some.inj H
   simp only [Option.some.injEq, Prod.mk.injEq] at H
   obtain ⟨rfl⟩ := H
   have hnb29 := NB103_101.out
   have hnc29 := NB101_103.out
   have hnb30 := NB103_102.out
   have hnc30 := NB102_103.out
   obtain ⟨hcz31_0, hfz31_0⟩ := bf_ BK103.out
   obtain ⟨Ao32, co32, eo32⟩ := Kd.S_slice HO_104000.out
   subst eo32
   have hnb33 := NB102_101.out
   have hnc33 := NB101_102.out
   obtain ⟨hcz34_0, hfz34_0⟩ := bf_ BK102.out
   go_wp2
   refine bodyPost_ret (results_cell_row rfl _ _ gb102 26 #[.slice Ao32 x104000_1.length co32] (0, 0) _ rfl (by (with_reducible repeat (first | refine blk_drewN ?_ _ | refine blk_drew ?_ | refine blk_alloc ?_ _)); refine blk_put (cs := #[.slice none 0 0]) ?_ 0 _ rfl; exact bk_ BK102.out) Try.underlying26 rfl (by kernel_rfl)) rfl ?_
   exact ⟨_, qzw, by (with_reducible repeat (first | apply Kd.S_alloc | apply Kd.S_drewN | apply Kd.S_drew)); exact Kd.S_mono (Kd.S_far (p := ⟨gb102, 0, none⟩) (Kd.S_types HO_104000.out BK102.out (by decide)) (fun _ hk => hk.2) (.slice Ao32 x104000_1.length co32)) (fun _ hk => trivial), qz1⟩

   }
/-! ### impl_stackAt: function 67 -/
def impl_stackAt.l0 : Nat → Int → Int → Int → Int → List (S72) → Option (Int × Bool)
 | 0, _, _, _, _, _ => none
 | k + 1, x1, x6, x113000, x113001, x113002 => if x6 < (x113002.length : Int) then (if 0 ≤ x6 then (if ((rd_T72 x113002 x6).f0) < x1 then (impl_stackAt.l0 k x1 (wrap64 (x6 + 1)) x113000 x113001 x113002) else (some (x6, (((rd_T72 x113002 x6).f0) == x1)))) else (none)) else (some (x6, false))
def impl_stackAt.f (k : Nat) (a0_0 : Int) (a0_1 : Int) (l0_2 : List (S72)) (a1 : Int) : Option (Int × Bool) := impl_stackAt.l0 k a1 0 a0_0 a0_1 l0_2
theorem impl_stackAt.mono_l : ∀ k, (∀ y0 y1 y2 y3 y4, LeO (impl_stackAt.l0 k y0 y1 y2 y3 y4) (impl_stackAt.l0 (k + 1) y0 y1 y2 y3 y4))
 | 0 => fun _ _ _ _ _ r h => by simp [impl_stackAt.l0] at h
 | k + 1 => by
  have ih0 := impl_stackAt.mono_l k
  {
  intro y0 y1 y2 y3 y4
  unfold impl_stackAt.l0
  exact qL
  }
theorem impl_stackAt.mono : ∀ a0 a1 a2 a3 k, LeO (impl_stackAt.f k a0 a1 a2 a3) (impl_stackAt.f (k + 1) a0 a1 a2 a3) := by
 intro a0 a1 a2 a3 k
 have ih0 := impl_stackAt.mono_l k
 unfold impl_stackAt.f
 exact qL
set_option maxHeartbeats 8000000 in
set_option maxRecDepth 100000 in
theorem impl_stackAt.calls (k : Nat) (a0_0 : Int) (a0_1 : Int) (A0_2 : Option Addr) (c0_2 : Nat) (l0_2 : List (S72)) (a1 : Int) (r1 : Int) (r2 : Bool) (w : World) (hr0_2 : Kd.C k72 w A0_2 l0_2.length l0_2) (hc0_2 : l0_2.length ≤ c0_2) (h : impl_stackAt.f k a0_0 a0_1 l0_2 a1 = some (r1, r2)) :
  Calls Try.prog 67 #[.agg #[.int .i64 a0_0, .int .i64 a0_1, .slice A0_2 l0_2.length c0_2], .int .i64 a1] w fun e w' => e = .returned (.tuple #[.int .i64 r1, .bool r2]) ∧ Below w.heap.size w w' := by
 have hu79 := Try.underlying79
 have HR0_2 := aM hr0_2
 have HC0_2 := aM hc0_2
 clear hr0_2 hc0_2
 have HB := aM (Below.refl w.heap.size w)
 have H : (impl_stackAt.l0 k a1 0 a0_0 a0_1 l0_2) = some (r1, r2) := h
 clear h
 have H' := aM H
 clear H
 go_enter Try.func67, Try.ntmps67
 go_wp2_with (first | ((with_reducible refine gate_dst (N := 2) rfl ?_); refine bx_ 2 #[.int .i64 a0_0, .int .i64 a0_1, .slice A0_2 l0_2.length c0_2] 79 ?_; intro gb112 hg w3 hbox hb; have BK112 := aM (hbox); have GW112 := aM (bz_ w hg qz1); have GE112 := GW112; replace HB := bS_ hb; clear hb hbox hg))
 repeat (go_quiet (first | ((with_reducible refine gate_dst (N := 2) rfl ?_); refine bx_ 2 #[.int .i64 a0_0, .int .i64 a0_1, .slice A0_2 l0_2.length c0_2] 79 ?_; intro gb112 hg w3 hbox hb; have BK112 := aM (hbox); have GW112 := aM (bz_ w hg qz1); have GE112 := GW112; replace HB := bS_ hb; clear hb hbox hg)); try go_wp2_with (first | ((with_reducible refine gate_dst (N := 2) rfl ?_); refine bx_ 2 #[.int .i64 a0_0, .int .i64 a0_1, .slice A0_2 l0_2.length c0_2] 79 ?_; intro gb112 hg w3 hbox hb; have BK112 := aM (hbox); have GW112 := aM (bz_ w hg qz1); have GE112 := GW112; replace HB := bS_ hb; clear hb hbox hg)))
 go_loopg [6] k (fun kq v6 w' => ∃ (x6_1 : Int), v6 = .int .i64 x6_1 ∧ Aside0 (impl_stackAt.l0 kq a1 x6_1 a0_0 a0_1 l0_2 = some (r1, r2)) ∧ Aside0 (kq ≤ k) ∧ Aside0 (w'.heap[gb112]? = some (.cells #[.int .i64 a0_0, .int .i64 a0_1, (.slice A0_2 l0_2.length c0_2)] 79 (0, 0))) ∧ Aside0 (Below w.heap.size w w'))
 case atStart => exact ⟨(0), qz6, H', ⟨Nat.le_refl _⟩, ⟨bk_ BK112.out⟩, ⟨qz1⟩⟩
 case round =>
  clear H'
  try clear p2
  obtain ⟨x6_1, rfl, HA, HK1, BK112, HB⟩ := hrel
  cases gk with
  | zero => exact absurd HA.out (by simp [impl_stackAt.l0])
  | succ k1 =>
   have H := HA.out
   clear HA
   simp only [impl_stackAt.l0] at H
   by_cases c4 : x6_1 < (l0_2.length : Int)
   {
   rw [if_pos c4] at H
   have c4b0 := decide_eq_true c4
   clear c4
   by_cases c5 : 0 ≤ x6_1
   {
   rw [if_pos c5] at H
   have c5b0 := decide_eq_true c5
   clear c5
   by_cases c6 : ((rd_T72 l0_2 x6_1).f0) < a1
   {
   rw [if_pos c6] at H
   have c6b0 := decide_eq_true c6
   clear c6
   have H' := aM H
   clear H
   obtain ⟨hcz7_0, hcz7_1, hcz7_2, hfz7_0, hfz7_1, hfz7_2⟩ := b6_ BK112.out
   have p113 : 0 ≤ (x6_1 : Int) := dt_
   have q113 : x6_1 < (l0_2.length : Int) := dt_
   obtain ⟨ad113, e113, hx113_0, hx113_1, hx113_2⟩ := at_T72 HR0_2.out x6_1 p113 q113
   cases e113
   replace hx113_0 := cB_ hx113_0
   replace hx113_1 := cB_ hx113_1
   replace hx113_2 := cB_ hx113_2
   replace p113 := eq_true p113
   replace q113 := eq_true q113
   go_wp2
   repeat (go_quiet (fail); try go_wp2)
   go_roundg k1
   case measure => have := HK1.out; omega
   case rel => exact ⟨(wrap64 (x6_1 + 1)), qz6, H', ⟨by have := HK1.out; omega⟩, ⟨bk_ BK112.out⟩, ⟨qz1⟩⟩
   }
   {
   rw [if_neg c6] at H
   have c6b0 := decide_eq_false c6
   clear c6
   simp only [Option.some.injEq, Prod.mk.injEq] at H
   obtain ⟨rfl, rfl⟩ := H
   obtain ⟨hcz8_0, hcz8_1, hcz8_2, hfz8_0, hfz8_1, hfz8_2⟩ := b6_ BK112.out
   have p113 : 0 ≤ (x6_1 : Int) := dt_
   have q113 : x6_1 < (l0_2.length : Int) := dt_
   obtain ⟨ad113, e113, hx113_0, hx113_1, hx113_2⟩ := at_T72 HR0_2.out x6_1 p113 q113
   cases e113
   replace hx113_0 := cB_ hx113_0
   replace hx113_1 := cB_ hx113_1
   replace hx113_2 := cB_ hx113_2
   replace p113 := eq_true p113
   replace q113 := eq_true q113
   have p114 : 0 ≤ (x6_1 : Int) := dt_
   have q114 : x6_1 < (l0_2.length : Int) := dt_
   obtain ⟨ad114, e114, hx114_0, hx114_1, hx114_2⟩ := at_T72 HR0_2.out x6_1 p114 q114
   obtain rfl : ad113 = ad114 := (by injection e114)
   replace hx114_0 := cB_ hx114_0
   replace hx114_1 := cB_ hx114_1
   replace hx114_2 := cB_ hx114_2
   replace p114 := eq_true p114
   replace q114 := eq_true q114
   go_wp2
   repeat (go_quiet (fail); try go_wp2)
   go_ret2
   exact ⟨qzw, qz1⟩
   }
   }
   {
   exact an_ c5 H
   }
   }
   {
   rw [if_neg c4] at H
   have c4b0 := decide_eq_false c4
   clear c4
   simp only [Option.some.injEq, Prod.mk.injEq] at H
   obtain ⟨rfl, rfl⟩ := H
   obtain ⟨hcz9_0, hcz9_1, hcz9_2, hfz9_0, hfz9_1, hfz9_2⟩ := b6_ BK112.out
   go_wp2
   repeat (go_quiet (fail); try go_wp2)
   go_ret2
   exact ⟨qzw, qz1⟩

   }
end Go.Proofs.Yteajnkondkfmgaa.PFnTaken
