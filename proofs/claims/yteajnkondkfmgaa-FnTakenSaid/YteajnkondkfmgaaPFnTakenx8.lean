-- Made by a program of this session out of the translation. Lean checks it.
import Derived.Test.YteajnkondkfmgaaPFnTakenx0
import Derived.Test.YteajnkondkfmgaaPFnTakenx7
namespace Go.Proofs.Yteajnkondkfmgaa.PFnTaken
open Go.RowKit Go.Proofs.YteajnkondkfmgaaW.PrintWords Go.Proofs.YteajnkondkfmgaaW.PrintLast Go.Proofs.YteajnkondkfmgaaW.PrintMore
attribute [local go_sem] max2_int min2_int max_two min_two max_three min_three max_four min_four   -- for this text's walks alone
set_option linter.unusedVariables false
set_option linter.unusedSimpArgs false

/-! ### spec_l5Draw: function 101 -/
mutual
def spec_l5Draw.l0 : Nat → Int → List Int → Int → Int → List (S79) → Option ((List (S79)) × Int × Int)
 | 0, _, _, _, _, _ => none
 | k + 1, x4, x1000, x1001, x1002, x197000 => if x4 < 6 then ((spec_l1Once.f x1000 x1001 x1002 4).bind fun bt197 => (if bt197.1 = true then (spec_l5Draw.l0 k (wrap64 (x4 + 1)) x1000 bt197.2.1 bt197.2.2 x197000) else (spec_l5Draw.l1 k x4 1 x1000 bt197.2.1 bt197.2.2 x197000 (wrap64 (x4 * 10)) (wrap64 (20 - x4)) ([] : List (S72))))) else (some (x197000, x1001, x1002))
def spec_l5Draw.l1 : Nat → Int → Int → List Int → Int → Int → List (S79) → Int → Int → List (S72) → Option ((List (S79)) × Int × Int)
 | 0, _, _, _, _, _, _, _, _, _ => none
 | k + 1, x4, x6, x1000, x1001, x1002, x197000, x201000, x201001, x201002 => if x6 < 6 then ((spec_l1Int.f x1000 x1001 x1002 (([0, 0, 1, 3, 5, 12] : List Int))).bind fun bt207 => (if bt207.1 > 0 then ((spec_l1Below.f x1000 bt207.2.1 bt207.2.2 (wrap64 (bt207.1 + 1))).bind fun bt210 => ((spec_l1Int.f x1000 bt210.2.1 bt210.2.2 (([0, 0, 0, bt210.1] : List Int))).bind fun bt216 => (if x201002.length < 5864062014805 then (spec_l5Draw.l1 k x4 (wrap64 (x6 + 1)) x1000 bt216.2.1 bt216.2.2 x197000 x201000 x201001 (x201002 ++ [(⟨x6, bt207.1, bt216.1⟩ : S72)])) else (none)))) else (spec_l5Draw.l1 k x4 (wrap64 (x6 + 1)) x1000 bt207.2.1 bt207.2.2 x197000 x201000 x201001 x201002))) else (if x197000.length < 3518437208883 then (spec_l5Draw.l0 k (wrap64 (x4 + 1)) x1000 x1001 x1002 (x197000 ++ [(⟨x201000, x201001, x201002⟩ : S79)])) else (none))
end
def spec_l5Draw.f (k : Nat) (s0_0 : List Int) (s0_1 : Int) (s0_2 : Int) : Option ((List (S79)) × Int × Int) := spec_l5Draw.l0 k 1 s0_0 s0_1 s0_2 ([] : List (S79))
theorem spec_l5Draw.mono_l : ∀ k, (∀ y0 y1 y2 y3 y4, LeO (spec_l5Draw.l0 k y0 y1 y2 y3 y4) (spec_l5Draw.l0 (k + 1) y0 y1 y2 y3 y4)) ∧ (∀ y0 y1 y2 y3 y4 y5 y6 y7 y8, LeO (spec_l5Draw.l1 k y0 y1 y2 y3 y4 y5 y6 y7 y8) (spec_l5Draw.l1 (k + 1) y0 y1 y2 y3 y4 y5 y6 y7 y8))
 | 0 => ⟨fun _ _ _ _ _ r h => by simp [spec_l5Draw.l0] at h, fun _ _ _ _ _ _ _ _ _ r h => by simp [spec_l5Draw.l1] at h⟩
 | k + 1 => by
  obtain ⟨ih0, ih1⟩ := spec_l5Draw.mono_l k
  refine ⟨?_, ?_⟩
  {
  intro y0 y1 y2 y3 y4
  unfold spec_l5Draw.l0
  exact qL
  }
  {
  intro y0 y1 y2 y3 y4 y5 y6 y7 y8
  unfold spec_l5Draw.l1
  exact qL
  }
theorem spec_l5Draw.mono : ∀ a0 a1 a2 k, LeO (spec_l5Draw.f k a0 a1 a2) (spec_l5Draw.f (k + 1) a0 a1 a2) := by
 intro a0 a1 a2 k
 obtain ⟨ih0, ih1⟩ := spec_l5Draw.mono_l k
 unfold spec_l5Draw.f
 exact qL
def spec_l5Draw.T12 : Bool × List (List Nat × List Nat) := (true, [([], []), ([0], [0]), ([], []), ([], []), ([], []), ([], []), ([], []), ([6], [6]), ([5, 7], [5, 7]), ([8], [8]), ([4, 9, 8], [4, 9]), ([2, 3, 10], [2, 3, 10]), ([11], [11]), ([1, 12, 10], [1, 12]), ([0, 1, 2, 3, 4, 5, 6, 7, 8, 9, 10, 11, 12, 13], []), ([14, 13, 13, 0, 1, 2, 3, 4, 5, 6, 7, 8, 9, 10, 11, 12, 13], [13, 14])])
def spec_l5Draw.B12 : List Nat := [0, 1, 0, 0, 0, 0, 0, 64, 224, 480, 1008, 2044, 4092, 8191, 16383, 32767]
theorem spec_l5Draw.tab12 : rtab .any (opsOf Try.f101 12) = spec_l5Draw.T12 := by kernel_rfl
theorem spec_l5Draw.bits12 : waitsOk spec_l5Draw.T12.2 spec_l5Draw.B12 = true := by kernel_rfl
set_option maxHeartbeats 8000000 in
set_option maxRecDepth 100000 in
theorem spec_l5Draw.calls (k : Nat) (g : Nat) (s0_0 : List Int) (s0_1 : Int) (s0_2 : Int) (r1 : List (S79)) (r2 : Int) (r3 : Int) (w0 w : World) (hI : IsS122 w0 w g s0_0 s0_1 s0_2) (hB : Below w0.heap.size w0 w) (h : spec_l5Draw.f k s0_0 s0_1 s0_2 = some (r1, r2, r3)) :
  Calls Try.prog 101 #[.pointer (some ⟨g, 0, none⟩)] w fun e w' => ∃ v0_ : Value, e = .returned (.agg #[v0_]) ∧ Kd.S k79 79 w' w.heap.size (fun _ => True) v0_ r1 ∧ IsS122 w0 w' g s0_0 r2 r3 ∧ Below w0.heap.size w0 w' ∧ KeepBut w w' g none := by
 have hu26 := Try.underlying26
 have hu79 := Try.underlying79
 have hu72 := Try.underlying72
 have HI0 := aM hI
 have HK := aM (KeepBut.refl w g none)
 have HL := aM hB.size
 clear hI
 have HW0 := aM hB.size
 have HB := aM hB
 clear hB
 have H : (spec_l5Draw.l0 k 1 s0_0 s0_1 s0_2 ([] : List (S79))) = some (r1, r2, r3) := h
 clear h
 have H' := aM H
 clear H
 go_enter Try.func101, Try.ntmps101
 go_wp2_with (first | ((with_reducible refine gate_dst (N := 2) rfl ?_); refine bx_ 2 #[.slice none 0 0] 26 ?_; intro gb195 hg w2 hbox hb; replace HB := bS_ hb; have BK195 := aM (hbox); have GW195 := aM (kz_ w g hg qz2); have GE195 := aM ((Nat.le_trans HW0.out (by rw [hg]; exact (keep_size (w := w) (g := g) (row := none) qz2) : w.heap.size ≤ gb195) : w0.heap.size ≤ gb195)); replace HK := aM (KeepBut.trans qz2 (KeepBut.of_below hb g none) (.inl rfl)); have NB0_195 := aM ((by rw [hg]; exact Nat.ne_of_lt (IsS122.lt (show IsS122 w0 _ g s0_0 s0_1 s0_2 from qz3)) : g ≠ gb195)); have NB195_0 := aM ((by rw [hg]; exact Nat.ne_of_gt (IsS122.lt (show IsS122 w0 _ g s0_0 s0_1 s0_2 from qz3)) : gb195 ≠ g)); replace HI0 := aM (IsS122.below qz3 hb); clear hb hbox hg) | ((with_reducible refine gate_dst (N := 3) rfl ?_); refine bx_ 3 #[.slice none 0 0] 26 ?_; intro gb196 hg w3 hbox hb; replace HB := bS_ hb; have BK196 := aM (hbox); have GW196 := aM (kz_ w g hg qz2); have GE196 := aM ((Nat.le_trans HW0.out (by rw [hg]; exact (keep_size (w := w) (g := g) (row := none) qz2) : w.heap.size ≤ gb196) : w0.heap.size ≤ gb196)); replace HK := aM (KeepBut.trans qz2 (KeepBut.of_below hb g none) (.inl rfl)); obtain ⟨NB195_196, NB196_195⟩ := nb_ hg (bk_ BK195.out); replace BK195 := bB_ BK195 hb; have NB0_196 := aM ((by rw [hg]; exact Nat.ne_of_lt (IsS122.lt (show IsS122 w0 _ g s0_0 s0_1 s0_2 from qz3)) : g ≠ gb196)); have NB196_0 := aM ((by rw [hg]; exact Nat.ne_of_gt (IsS122.lt (show IsS122 w0 _ g s0_0 s0_1 s0_2 from qz3)) : gb196 ≠ g)); replace HI0 := aM (IsS122.below qz3 hb); clear hb hbox hg; have hnb4 := NB196_195.out; have hnc4 := NB195_196.out; have hnb5 := NB196_0.out; have hnc5 := NB0_196.out; obtain ⟨hcz6_0, hfz6_0⟩ := bf_ BK196.out))
 go_loopg [4] k (fun kq v4 w' => ∃ (x4_1 : Int) (x1001_1 : Int) (x1002_1 : Int) (x197000_1 : List (S79)) (u197000 : Value), v4 = .int .i64 x4_1 ∧ Aside0 (spec_l5Draw.l0 kq x4_1 s0_0 x1001_1 x1002_1 x197000_1 = some (r1, r2, r3)) ∧ Aside0 (kq ≤ k) ∧ Aside0 (Kd.S k79 79 w' w.heap.size (fun _ => True) u197000 x197000_1) ∧ Aside0 (w'.heap[gb195]? = some (.cells #[(.slice none 0 0)] 26 (0, 0))) ∧ Aside0 (w'.heap[gb196]? = some (.cells #[u197000] 26 (0, 0))) ∧ Aside0 (IsS122 w0 w' g s0_0 x1001_1 x1002_1) ∧ Aside0 (KeepBut w w' g none) ∧ Aside0 (Below w0.heap.size w0 w'))
 case atStart => exact ⟨(1), (s0_1), (s0_2), (([] : List (S79))), (.slice none 0 0), qz6, H', ⟨Nat.le_refl _⟩, ⟨by first | exact Kd.S_nil _ _ _ _ _ | exact Kd.N_nil _ _ _ _ _ | exact Kd.V_nil _ _ _ _ _ | exact Kd.Q_nil _ _ _ _ _ | exact Kd.R_nil _ _ _ _ _⟩, ⟨by (with_reducible repeat (first | refine blk_drewN ?_ _ | refine blk_drew ?_ | refine blk_alloc ?_ _)); refine blk_far ?_ NB195_196.out _; exact bk_ BK195.out⟩, ⟨by (with_reducible repeat (first | refine blk_drewN ?_ _ | refine blk_drew ?_ | refine blk_alloc ?_ _)); refine blk_put (cs := #[.slice none 0 0]) ?_ 0 _ rfl; exact bk_ BK196.out⟩, ⟨qz3⟩, ⟨qz2⟩, ⟨qz1⟩⟩
 case round =>
  clear H'
  try clear c1
  try clear p2
  try clear c4
  try clear c5
  try clear hcz6_0
  try clear hfz6_0
  obtain ⟨x4_1, x1001_1, x1002_1, x197000_1, u197000, rfl, HA, HK1, HO_197000, BK195, BK196, HI0, HK, HB⟩ := hrel
  cases gk with
  | zero => exact absurd HA.out (by simp [spec_l5Draw.l0])
  | succ k1 =>
   have H := HA.out
   clear HA
   simp only [spec_l5Draw.l0] at H
   by_cases c7 : x4_1 < 6
   {
   rw [if_pos c7] at H
   have c7b0 := decide_eq_true c7
   clear c7
   replace H := Option.bind_eq_some_iff.mp H
   obtain ⟨⟨t197, t198, t199⟩, A80, H⟩ := H
   replace H : (if t197 = true then (spec_l5Draw.l0 k1 (wrap64 (x4_1 + 1)) s0_0 t198 t199 x197000_1) else (spec_l5Draw.l1 k1 x4_1 1 s0_0 t198 t199 x197000_1 (wrap64 (x4_1 * 10)) (wrap64 (20 - x4_1)) ([] : List (S72)))) = some (r1, r2, r3) := H
   have A8 := aM A80
   clear A80
   by_cases c9 : t197 = true
   {
   subst c9
   rw [if_pos rfl] at H
   have H' := aM H
   clear H
   go_wp2_with (first | ((with_reducible refine gate_callee (f := 102) rfl ?_); refine goesL_ (some 14) rfl rfl Try.func102 (by kernel_rfl) rfl #[.pointer (some ⟨g, 0, none⟩), .int .i64 4] rfl qz4 ?_; (with_reducible refine (spec_l1Once.calls g s0_0 x1001_1 x1002_1 4 true t198 t199 w0 _ ?side1 ?side2 A8.out).mono ?_); (case side1 => exact qz3); (case side2 => exact qz1); rintro e w10 ⟨rfl, hi, hb, hk⟩; refine ⟨_, rfl, ?_⟩; replace HO_197000 := aM (Kd.S_mono (Kd.S_keep (IsS122.apartS (show IsS122 w0 _ g s0_0 x1001_1 x1002_1 from qz3) (rs_ HO_197000.out) (by decide)) hk (fun _ h => h.2)) (fun _ h => h.1)); replace BK195 := aM (KeepBut.blk hk (bk_ BK195.out) NB195_0.out (by simp)); replace BK196 := aM (KeepBut.blk hk (bk_ BK196.out) NB196_0.out (by simp)); replace HK := aM (KeepBut.trans qz2 hk (.inl rfl)); replace HB := aM (hb); replace HI0 := aM (hi); (try clear hb); (try clear hb2); (try clear hk); (try clear hi)))
   go_roundg k1
   case measure => have := HK1.out; omega
   case rel => exact ⟨(wrap64 (x4_1 + 1)), (t198), (t199), (x197000_1), (u197000), qz6, H', ⟨by have := HK1.out; omega⟩, ⟨rm_ HO_197000.out⟩, ⟨bk_ BK195.out⟩, ⟨bk_ BK196.out⟩, ⟨qz3⟩, ⟨qz2⟩, ⟨qz1⟩⟩
   }
   {
   replace c9 := Bool.eq_false_iff.mpr c9
   subst c9
   rw [if_neg (show ¬ (false = true) by decide)] at H
   have H' := aM H
   clear H
   go_wp2_with (first | ((with_reducible refine gate_callee (f := 102) rfl ?_); refine goesL_ (some 14) rfl rfl Try.func102 (by kernel_rfl) rfl #[.pointer (some ⟨g, 0, none⟩), .int .i64 4] rfl qz4 ?_; (with_reducible refine (spec_l1Once.calls g s0_0 x1001_1 x1002_1 4 false t198 t199 w0 _ ?side1 ?side2 A8.out).mono ?_); (case side1 => exact qz3); (case side2 => exact qz1); rintro e w11 ⟨rfl, hi, hb, hk⟩; refine ⟨_, rfl, ?_⟩; replace HO_197000 := aM (Kd.S_mono (Kd.S_keep (IsS122.apartS (show IsS122 w0 _ g s0_0 x1001_1 x1002_1 from qz3) (rs_ HO_197000.out) (by decide)) hk (fun _ h => h.2)) (fun _ h => h.1)); replace BK195 := aM (KeepBut.blk hk (bk_ BK195.out) NB195_0.out (by simp)); replace BK196 := aM (KeepBut.blk hk (bk_ BK196.out) NB196_0.out (by simp)); replace HK := aM (KeepBut.trans qz2 hk (.inl rfl)); replace HB := aM (hb); replace HI0 := aM (hi); (try clear hb); (try clear hb2); (try clear hk); (try clear hi)) | ((with_reducible refine gate_dst (N := 5) rfl ?_); refine bx_ 5 #[.int .i64 0, .int .i64 0, .slice none 0 0] 79 ?_; intro gb200 hg w12 hbox hb; replace HO_197000 := aM (Kd.S_below (Kd.S_elderB (rs_ HO_197000.out) gb200 (Nat.le_of_eq hg.symm)) hb); replace HB := bS_ hb; have BK200 := aM (hbox); have GW200 := aM (kz_ w g hg qz2); have GE200 := aM ((Nat.le_trans HW0.out (by rw [hg]; exact (keep_size (w := w) (g := g) (row := none) qz2) : w.heap.size ≤ gb200) : w0.heap.size ≤ gb200)); replace HK := aM (KeepBut.trans qz2 (KeepBut.of_below hb g none) (.inl rfl)); obtain ⟨NB195_200, NB200_195⟩ := nb_ hg (bk_ BK195.out); replace BK195 := bB_ BK195 hb; obtain ⟨NB196_200, NB200_196⟩ := nb_ hg (bk_ BK196.out); replace BK196 := bB_ BK196 hb; have NB0_200 := aM ((by rw [hg]; exact Nat.ne_of_lt (IsS122.lt (show IsS122 w0 _ g s0_0 t198 t199 from qz3)) : g ≠ gb200)); have NB200_0 := aM ((by rw [hg]; exact Nat.ne_of_gt (IsS122.lt (show IsS122 w0 _ g s0_0 t198 t199 from qz3)) : gb200 ≠ g)); replace HI0 := aM (IsS122.below qz3 hb); clear hb hbox hg; have hnb13 := NB200_195.out; have hnc13 := NB195_200.out; have hnb14 := NB200_196.out; have hnc14 := NB196_200.out; have hnb15 := NB200_0.out; have hnc15 := NB0_200.out; obtain ⟨hcz16_0, hcz16_1, hcz16_2, hfz16_0, hfz16_1, hfz16_2⟩ := b6_ BK200.out))
   go_loopg [6] k1 (fun kq v6 w' => ∃ (x6_2 : Int) (x1001_2 : Int) (x1002_2 : Int) (x201002_2 : List (S72)) (u201002 : Value), v6 = .int .i64 x6_2 ∧ Aside0 (spec_l5Draw.l1 kq x4_1 x6_2 s0_0 x1001_2 x1002_2 x197000_1 (wrap64 (x4_1 * 10)) (wrap64 (20 - x4_1)) x201002_2 = some (r1, r2, r3)) ∧ Aside0 (kq ≤ k1) ∧ Aside0 (Kd.S k79 79 w' w.heap.size (fun k_ => some k_ ≠ (u201002 : Value).ownBlock ∧ k_ ≠ gb200) u197000 x197000_1) ∧ Aside0 (Kd.R k72 72 w' w.heap.size (fun _ => True) u201002 x201002_2) ∧ Aside0 (w'.heap[gb195]? = some (.cells #[(.slice none 0 0)] 26 (0, 0))) ∧ Aside0 (w'.heap[gb196]? = some (.cells #[u197000] 26 (0, 0))) ∧ Aside0 (w'.heap[gb200]? = some (.cells #[.int .i64 (wrap64 (x4_1 * 10)), .int .i64 (wrap64 (20 - x4_1)), u201002] 79 (0, 0))) ∧ Aside0 (IsS122 w0 w' g s0_0 x1001_2 x1002_2) ∧ Aside0 (KeepBut w w' g none) ∧ Aside0 (Below w0.heap.size w0 w'))
   case atStart => exact ⟨(1), (t198), (t199), (([] : List (S72))), (.slice none 0 0), qz6, H', ⟨Nat.le_refl _⟩, ⟨by (with_reducible repeat (first | apply Kd.S_alloc | apply Kd.S_drewN | apply Kd.S_drew)); exact Kd.S_mono (Kd.S_far (p := ⟨gb200, 2, none⟩) (Kd.S_far (p := ⟨gb200, 1, none⟩) (Kd.S_far (p := ⟨gb200, 0, none⟩) (Kd.S_mono HO_197000.out (fun k_ hk => (⟨hk, hk.2⟩ : _ ∧ k_ ≠ gb200))) (fun _ hk => hk.2) (.int .i64 (wrap64 (x4_1 * 10)))) (fun _ hk => hk.2) (.int .i64 (wrap64 (20 - x4_1)))) (fun _ hk => hk.2) (.slice none 0 0)) (fun _ hk => ⟨(by simp [Value.ownBlock]), hk.1.2⟩)⟩, ⟨by first | exact Kd.R_nil _ _ _ _ _ | exact Kd.N_nil _ _ _ _ _ | exact Kd.V_nil _ _ _ _ _ | exact Kd.Q_nil _ _ _ _ _ | exact Kd.S_nil _ _ _ _ _⟩, ⟨by (with_reducible repeat (first | refine blk_drewN ?_ _ | refine blk_drew ?_ | refine blk_alloc ?_ _)); refine blk_far ?_ NB195_200.out _; (with_reducible repeat (first | refine blk_drewN ?_ _ | refine blk_drew ?_ | refine blk_alloc ?_ _)); refine blk_far ?_ NB195_200.out _; (with_reducible repeat (first | refine blk_drewN ?_ _ | refine blk_drew ?_ | refine blk_alloc ?_ _)); refine blk_far ?_ NB195_200.out _; exact bk_ BK195.out⟩, ⟨by (with_reducible repeat (first | refine blk_drewN ?_ _ | refine blk_drew ?_ | refine blk_alloc ?_ _)); refine blk_far ?_ NB196_200.out _; (with_reducible repeat (first | refine blk_drewN ?_ _ | refine blk_drew ?_ | refine blk_alloc ?_ _)); refine blk_far ?_ NB196_200.out _; (with_reducible repeat (first | refine blk_drewN ?_ _ | refine blk_drew ?_ | refine blk_alloc ?_ _)); refine blk_far ?_ NB196_200.out _; exact bk_ BK196.out⟩, ⟨by (with_reducible repeat (first | refine blk_drewN ?_ _ | refine blk_drew ?_ | refine blk_alloc ?_ _)); refine blk_put (cs := #[.int .i64 (wrap64 (x4_1 * 10)), .int .i64 (wrap64 (20 - x4_1)), .slice none 0 0]) ?_ 2 _ rfl; (with_reducible repeat (first | refine blk_drewN ?_ _ | refine blk_drew ?_ | refine blk_alloc ?_ _)); refine blk_put (cs := #[.int .i64 (wrap64 (x4_1 * 10)), .int .i64 0, .slice none 0 0]) ?_ 1 _ rfl; (with_reducible repeat (first | refine blk_drewN ?_ _ | refine blk_drew ?_ | refine blk_alloc ?_ _)); refine blk_put (cs := #[.int .i64 0, .int .i64 0, .slice none 0 0]) ?_ 0 _ rfl; exact bk_ BK200.out⟩, ⟨qz3⟩, ⟨qz2⟩, ⟨qz1⟩⟩
   case round =>
    clear H'
    try clear c1
    try clear p2
    try clear c4
    try clear c5
    try clear p6
    try clear c7
    try clear c7b0
    try clear c9
    try clear c10
    try clear c13
    try clear c14
    try clear c15
    try clear hcz16_0
    try clear hcz16_1
    try clear hcz16_2
    try clear hcz6_0
    try clear hfz16_0
    try clear hfz16_1
    try clear hfz16_2
    try clear hfz6_0
    try clear p2
    obtain ⟨x6_2, x1001_2, x1002_2, x201002_2, u201002, rfl, HA, HK2, HO_197000, HO_201002, BK195, BK196, BK200, HI0, HK, HB⟩ := hrel
    cases gk with
    | zero => exact absurd HA.out (by simp [spec_l5Draw.l1])
    | succ k2 =>
     have H := HA.out
     clear HA
     simp only [spec_l5Draw.l1] at H
     by_cases c17 : x6_2 < 6
     {
     rw [if_pos c17] at H
     have c17b0 := decide_eq_true c17
     clear c17
     obtain ⟨y204, hy204⟩ : ∃ y_ : List Int, y_ = (([0, 0, 1, 3, 5, 12] : List Int)) := ⟨_, rfl⟩
     replace H : ((spec_l1Int.f s0_0 x1001_2 x1002_2 y204).bind fun bt207 => (if bt207.1 > 0 then ((spec_l1Below.f s0_0 bt207.2.1 bt207.2.2 (wrap64 (bt207.1 + 1))).bind fun bt210 => ((spec_l1Int.f s0_0 bt210.2.1 bt210.2.2 (([0, 0, 0, bt210.1] : List Int))).bind fun bt216 => (if x201002_2.length < 5864062014805 then (spec_l5Draw.l1 k2 x4_1 (wrap64 (x6_2 + 1)) s0_0 bt216.2.1 bt216.2.2 x197000_1 (wrap64 (x4_1 * 10)) (wrap64 (20 - x4_1)) (x201002_2 ++ [(⟨x6_2, bt207.1, bt216.1⟩ : S72)])) else (none)))) else (spec_l5Draw.l1 k2 x4_1 (wrap64 (x6_2 + 1)) s0_0 bt207.2.1 bt207.2.2 x197000_1 (wrap64 (x4_1 * 10)) (wrap64 (20 - x4_1)) x201002_2))) = some (r1, r2, r3) := by first | (rw [hy204]; with_reducible exact H) | (have H2_ := (Option.bind_some _ _).symm.trans H; rw [hy204]; with_reducible exact H2_) | (have H2_ := (Option.bind_some _ _).symm.trans H; with_reducible exact H2_) | with_reducible exact H | (rw [hy204]; exact H) | exact H
     have Ny204 := aM hy204
     clear hy204
     replace H := Option.bind_eq_some_iff.mp H
     obtain ⟨⟨t207, t208, t209⟩, A180, H⟩ := H
     replace H : (if t207 > 0 then ((spec_l1Below.f s0_0 t208 t209 (wrap64 (t207 + 1))).bind fun bt210 => ((spec_l1Int.f s0_0 bt210.2.1 bt210.2.2 (([0, 0, 0, bt210.1] : List Int))).bind fun bt216 => (if x201002_2.length < 5864062014805 then (spec_l5Draw.l1 k2 x4_1 (wrap64 (x6_2 + 1)) s0_0 bt216.2.1 bt216.2.2 x197000_1 (wrap64 (x4_1 * 10)) (wrap64 (20 - x4_1)) (x201002_2 ++ [(⟨x6_2, t207, bt216.1⟩ : S72)])) else (none)))) else (spec_l5Draw.l1 k2 x4_1 (wrap64 (x6_2 + 1)) s0_0 t208 t209 x197000_1 (wrap64 (x4_1 * 10)) (wrap64 (20 - x4_1)) x201002_2)) = some (r1, r2, r3) := H
     have A18 := aM A180
     clear A180
     by_cases c19 : t207 > 0
     {
     rw [if_pos c19] at H
     have c19b0 := decide_eq_true c19
     clear c19
     replace H := Option.bind_eq_some_iff.mp H
     obtain ⟨⟨t210, t211, t212⟩, A200, H⟩ := H
     replace H : ((spec_l1Int.f s0_0 t211 t212 (([0, 0, 0, t210] : List Int))).bind fun bt216 => (if x201002_2.length < 5864062014805 then (spec_l5Draw.l1 k2 x4_1 (wrap64 (x6_2 + 1)) s0_0 bt216.2.1 bt216.2.2 x197000_1 (wrap64 (x4_1 * 10)) (wrap64 (20 - x4_1)) (x201002_2 ++ [(⟨x6_2, t207, bt216.1⟩ : S72)])) else (none))) = some (r1, r2, r3) := H
     have A20 := aM A200
     clear A200
     obtain ⟨y213, hy213⟩ : ∃ y_ : List Int, y_ = (([0, 0, 0, t210] : List Int)) := ⟨_, rfl⟩
     replace H : ((spec_l1Int.f s0_0 t211 t212 y213).bind fun bt216 => (if x201002_2.length < 5864062014805 then (spec_l5Draw.l1 k2 x4_1 (wrap64 (x6_2 + 1)) s0_0 bt216.2.1 bt216.2.2 x197000_1 (wrap64 (x4_1 * 10)) (wrap64 (20 - x4_1)) (x201002_2 ++ [(⟨x6_2, t207, bt216.1⟩ : S72)])) else (none))) = some (r1, r2, r3) := by first | (rw [hy213]; with_reducible exact H) | (have H2_ := (Option.bind_some _ _).symm.trans H; rw [hy213]; with_reducible exact H2_) | (have H2_ := (Option.bind_some _ _).symm.trans H; with_reducible exact H2_) | with_reducible exact H | (rw [hy213]; exact H) | exact H
     have Ny213 := aM hy213
     clear hy213
     replace H := Option.bind_eq_some_iff.mp H
     obtain ⟨⟨t216, t217, t218⟩, A210, H⟩ := H
     replace H : (if x201002_2.length < 5864062014805 then (spec_l5Draw.l1 k2 x4_1 (wrap64 (x6_2 + 1)) s0_0 t217 t218 x197000_1 (wrap64 (x4_1 * 10)) (wrap64 (20 - x4_1)) (x201002_2 ++ [(⟨x6_2, t207, t216⟩ : S72)])) else (none)) = some (r1, r2, r3) := H
     have A21 := aM A210
     clear A210
     by_cases c22 : x201002_2.length < 5864062014805
     {
     rw [if_pos c22] at H
     have LMc22 := aM c22
     clear c22
     obtain ⟨y219, hy219⟩ : ∃ y_ : List (S72), y_ = (x201002_2 ++ [(⟨x6_2, t207, t216⟩ : S72)]) := ⟨_, rfl⟩
     replace H : (spec_l5Draw.l1 k2 x4_1 (wrap64 (x6_2 + 1)) s0_0 t217 t218 x197000_1 (wrap64 (x4_1 * 10)) (wrap64 (20 - x4_1)) y219) = some (r1, r2, r3) := by first | (rw [hy219]; with_reducible exact H) | (have H2_ := (Option.bind_some _ _).symm.trans H; rw [hy219]; with_reducible exact H2_) | (have H2_ := (Option.bind_some _ _).symm.trans H; with_reducible exact H2_) | with_reducible exact H | (rw [hy219]; exact H) | exact H
     have Ny219 := aM hy219
     clear hy219
     have H' := aM H
     clear H
     try go_wp2_with (first | ((with_reducible refine gate_dst (N := 25) rfl ?_); refine Kd.R_lit (Kd.int .i64) _ 3 ?hg (N := 25) ?hd (xs := ([0, 0, 1, 3, 5, 12] : List Int)) (inner := [.int .i64 0, .int .i64 0, .int .i64 1, .int .i64 3, .int .i64 5, .int .i64 12]) (ok := fun _ => True) (okp := fun _ => True) ?hr ?hp (fun _ hk => hk) trivial (Below.refl _ _) (Nat.le_refl _) (by simp) ?_; (case hd => rfl); (case hg => rfl); (case hr => exact qz27); (case hp => exact qz29); intro v205 w23 ho24 hb hg_ hnew_; clear hg_ hnew_; (first | rw [← Ny204.out] at ho24 | (simp only [Int.reduceToNat] at ho24; rw [← Ny204.out] at ho24)); replace HO_197000 := aM (Kd.S_below (rs_ HO_197000.out) hb); replace HO_201002 := aM (Kd.R_below (rr_ HO_201002.out) hb); have HO206 := aM (Kd.R_lower ho24 (keep_size (w := w) (g := g) (row := none) qz2)); replace BK195 := bB_ BK195 hb; replace BK196 := bB_ BK196 hb; replace BK200 := bB_ BK200 hb; replace HK := aM (KeepBut.trans qz2 (KeepBut.of_below hb g none) (.inl rfl)); replace HB := bS_ hb; replace HI0 := aM (IsS122.below qz3 hb); clear hb ho24; obtain ⟨Ao25, co25, eo25⟩ := Kd.R_slice HO206.out; subst eo25) | ((with_reducible refine gate_callee (f := 92) rfl ?_); refine goesL_ (some 26) rfl rfl Try.func92 (by kernel_rfl) rfl #[.pointer (some ⟨g, 0, none⟩), .slice Ao25 y204.length co25] rfl qz4 ?_; (with_reducible refine (spec_l1Int.calls g s0_0 x1001_2 x1002_2 _ _ y204 t207 t208 t209 w0 _ ?side1 ?side2 ?side3 ?side4 ?side5 A18.out).mono ?_); (case side1 => exact qz3); (case side2 => exact qz1); (case side3 => repeat (first | exact (Kd.R_reads' HO206.out).2.2 | (with_reducible refine Kd.C_alloc ?_ _) | (with_reducible refine Kd.C_drewN ?_ _) | (with_reducible refine Kd.C_drew ?_))); (case side4 => exact (Kd.R_reads' HO206.out).2.1); (case side5 => exact far_slice (IsS122.own_ne HI0.out HO206.out (by decide))); rintro e w26 ⟨rfl, hi, hb, hk⟩; refine ⟨_, rfl, ?_⟩; replace HO_197000 := aM (Kd.S_mono (Kd.S_keep (IsS122.apartS (show IsS122 w0 _ g s0_0 x1001_2 x1002_2 from qz3) (rs_ HO_197000.out) (by decide)) hk (fun _ h => h.2)) (fun _ h => h.1)); replace HO_201002 := aM (Kd.R_mono (Kd.R_keep (IsS122.apart (show IsS122 w0 _ g s0_0 x1001_2 x1002_2 from qz3) (rr_ HO_201002.out) (by decide)) hk (fun _ h => h.2)) (fun _ h => h.1)); replace BK195 := aM (KeepBut.blk hk (bk_ BK195.out) NB195_0.out (by simp)); replace BK196 := aM (KeepBut.blk hk (bk_ BK196.out) NB196_0.out (by simp)); replace BK200 := aM (KeepBut.blk hk (bk_ BK200.out) NB200_0.out (by simp)); replace HO206 := aM (Kd.R_mono (Kd.R_keep (IsS122.apart (show IsS122 w0 _ g s0_0 x1001_2 x1002_2 from qz3) (rr_ HO206.out) (by decide)) hk (fun _ h => h.2)) (fun _ h => h.1)); replace HK := aM (KeepBut.trans qz2 hk (.inl rfl)); replace HB := aM (hb); replace HI0 := aM (hi); (try clear hb); (try clear hb2); (try clear hk); (try clear hi)))
     replace HO_197000 := aM (Kd.S_drew HO_197000.out)
     replace HO_201002 := aM (Kd.R_drew HO_201002.out)
     replace HO206 := aM (Kd.R_drew HO206.out)
     replace BK195 := aM (blk_drew BK195.out)
     replace BK196 := aM (blk_drew BK196.out)
     replace BK200 := aM (blk_drew BK200.out)
     replace HI0 := aM (IsS122.drew HI0.out)
     replace HK := aM (keep_drew HK.out)
     replace HB := aM (below_drew1 HB.out)
     refine start_ (n := 16) (S := fun w' => w'.cell? ⟨gb200, 0, none⟩ = some (.int .i64 (wrap64 (x4_1 * 10))) ∧ w'.cell? ⟨gb200, 1, none⟩ = some (.int .i64 (wrap64 (20 - x4_1))) ∧ w'.cell? ⟨gb200, 2, none⟩ = some (u201002)) (ds := [15]) #[false, false, false, false, false, false, false, false, false, false, false, false, false, false, false, false] (by kernel_rfl) rfl rfl ⟨(blk_cell BK200.out 0).trans rfl, (blk_cell BK200.out 1).trans rfl, (blk_cell BK200.out 2).trans rfl⟩ (fun hHeld => ?_); refine with_tabW spec_l5Draw.tab12 spec_l5Draw.bits12 (fun HT_ HW_ => ?_)
     generalize w26.drew = w27 at HO_197000 HO_201002 HO206 BK195 BK196 BK200 HI0 HK HB hHeld ⊢
     refine pI_ 0 29 (bqz 16 1) ?_
     refine jI_ 2 31 ?_
     refine jI_ 3 32 ?_
     refine jI_ 4 33 ?_
     refine jI_ 5 34 ?_
     refine jI_ 6 35 ?_
     refine jI_ 7 36 ?_
     refine sI3_ 1 30 ?_
     refine one_ (i := 8) (N := some 37) (bqz 16 511) rfl rfl qzc (by decide) (fun K hK => ?_)
     refine goes_ Try.func105 (by kernel_rfl) rfl #[.pointer (some ⟨g, 0, none⟩), .int .i64 (wrap64 (t207 + 1))] (by rfl) rfl rfl qz4 ?_
     with_reducible refine (spec_l1Below.calls g s0_0 t208 t209 (wrap64 (t207 + 1)) t210 t211 t212 w0 _ ?side1 ?side2 A20.out).mono ?_
     (case side1 => exact qz3)
     (case side2 => exact qz1)
     rintro e w28 ⟨rfl, hi, hb, hk⟩
     refine ⟨_, rfl, ?_⟩
     replace HO_197000 := aM (Kd.S_mono (Kd.S_keep (IsS122.apartS (show IsS122 w0 _ g s0_0 t208 t209 from qz3) (rs_ HO_197000.out) (by decide)) hk (fun _ h => h.2)) (fun _ h => h.1))
     replace HO_201002 := aM (Kd.R_mono (Kd.R_keep (IsS122.apart (show IsS122 w0 _ g s0_0 t208 t209 from qz3) (rr_ HO_201002.out) (by decide)) hk (fun _ h => h.2)) (fun _ h => h.1))
     replace BK195 := aM (KeepBut.blk hk (bk_ BK195.out) NB195_0.out (by simp))
     replace BK196 := aM (KeepBut.blk hk (bk_ BK196.out) NB196_0.out (by simp))
     replace BK200 := aM (KeepBut.blk hk (bk_ BK200.out) NB200_0.out (by simp))
     replace HO206 := aM (Kd.R_mono (Kd.R_keep (IsS122.apart (show IsS122 w0 _ g s0_0 t208 t209 from qz3) (rr_ HO206.out) (by decide)) hk (fun _ h => h.2)) (fun _ h => h.1))
     replace HK := aM (KeepBut.trans qz2 hk (.inl rfl))
     replace HB := aM (hb)
     replace HI0 := aM (hi)
     (try clear hb)
     (try clear hb2)
     (try clear hk)
     (try clear hi)
     refine hK.out _ _ ⟨(blk_cell BK200.out 0).trans rfl, (blk_cell BK200.out 1).trans rfl, (blk_cell BK200.out 2).trans rfl⟩ (fun hHeld => ?_)
     clear hK K
     refine nm_ 37 ?_
     refine one_ (i := 9) (N := some 38) (bqz 16 1023) rfl rfl qzc (by decide) (fun K hK => ?_)
     refine Kd.R_lit_step (Kd.int .i64) _ 3 ?hg (N := 38) ?hd (xs := ([0, 0, 0, t210] : List Int)) (inner := [.int .i64 0, .int .i64 0, .int .i64 0, .int .i64 t210]) (ok := fun _ => True) (okp := fun _ => True) ?hr ?hp (fun _ hk => hk) trivial (Below.refl _ _) (Nat.le_refl _) (by simp) ?_; (case hd => rfl); (case hg => rfl); (case hr => exact qz27); (case hp => exact (Reps.one (show Kd.M (Kd.int .i64) _ _ _ 0 [.int .i64 0] from rfl) (Reps.one (show Kd.M (Kd.int .i64) _ _ _ 0 [.int .i64 0] from rfl) (Reps.one (show Kd.M (Kd.int .i64) _ _ _ 0 [.int .i64 0] from rfl) (Reps.one (show Kd.M (Kd.int .i64) _ _ _ t210 [.int .i64 t210] from rfl) (Reps.none _ _))))))
     intro v214 w29 ho30 hb hg_ hnew_
     clear hg_ hnew_
     (first | rw [← Ny213.out] at ho30 | (simp only [Int.reduceToNat] at ho30; rw [← Ny213.out] at ho30))
     replace HO_197000 := aM (Kd.S_below (rs_ HO_197000.out) hb)
     replace HO_201002 := aM (Kd.R_below (rr_ HO_201002.out) hb)
     have HO215 := aM (Kd.R_lower (Kd.R_new' ho30 (Kd.R_lt (rr_ HO206.out))) (keep_size (w := w) (g := g) (row := none) qz2))
     replace HO206 := aM (Kd.R_elder' (rr_ HO206.out) (Kd.R_base ho30) hb)
     replace BK195 := bB_ BK195 hb
     replace BK196 := bB_ BK196 hb
     replace BK200 := bB_ BK200 hb
     replace HK := aM (KeepBut.trans qz2 (KeepBut.of_below hb g none) (.inl rfl))
     replace HB := bS_ hb
     replace HI0 := aM (IsS122.below qz3 hb)
     clear hb ho30
     obtain ⟨Ao31, co31, eo31⟩ := Kd.R_slice HO215.out
     (first | subst eo31 | (injection eo31 with f1_ f2_ f3_; have f4_ := f1_.symm; have f5_ := f3_.symm; clear f1_ f2_ f3_; subst f4_; subst f5_))
     refine hK.out _ _ ⟨(blk_cell BK200.out 0).trans rfl, (blk_cell BK200.out 1).trans rfl, (blk_cell BK200.out 2).trans rfl⟩ (fun hHeld => ?_)
     clear hK K
     refine nm_ 38 ?_
     refine one_ (i := 10) (N := some 39) (bqz 16 2047) rfl rfl qzc (by decide) (fun K hK => ?_)
     refine goes_ Try.func92 (by kernel_rfl) rfl #[.pointer (some ⟨g, 0, none⟩), .slice Ao31 y213.length co31] (by rfl) rfl rfl qz4 ?_
     with_reducible refine (spec_l1Int.calls g s0_0 t211 t212 _ _ y213 t216 t217 t218 w0 _ ?side1 ?side2 ?side3 ?side4 ?side5 A21.out).mono ?_
     (case side1 => exact qz3)
     (case side2 => exact qz1)
     (case side3 => repeat (first | exact (Kd.R_reads' HO215.out).2.2 | (with_reducible refine Kd.C_alloc ?_ _) | (with_reducible refine Kd.C_drewN ?_ _) | (with_reducible refine Kd.C_drew ?_)))
     (case side4 => exact (Kd.R_reads' HO215.out).2.1)
     (case side5 => exact far_slice (IsS122.own_ne HI0.out HO215.out (by decide)))
     rintro e w32 ⟨rfl, hi, hb, hk⟩
     refine ⟨_, rfl, ?_⟩
     replace HO_197000 := aM (Kd.S_mono (Kd.S_keep (IsS122.apartS (show IsS122 w0 _ g s0_0 t211 t212 from qz3) (rs_ HO_197000.out) (by decide)) hk (fun _ h => h.2)) (fun _ h => h.1))
     replace HO_201002 := aM (Kd.R_mono (Kd.R_keep (IsS122.apart (show IsS122 w0 _ g s0_0 t211 t212 from qz3) (rr_ HO_201002.out) (by decide)) hk (fun _ h => h.2)) (fun _ h => h.1))
     replace BK195 := aM (KeepBut.blk hk (bk_ BK195.out) NB195_0.out (by simp))
     replace BK196 := aM (KeepBut.blk hk (bk_ BK196.out) NB196_0.out (by simp))
     replace BK200 := aM (KeepBut.blk hk (bk_ BK200.out) NB200_0.out (by simp))
     replace HO206 := aM (Kd.R_mono (Kd.R_keep (IsS122.apart (show IsS122 w0 _ g s0_0 t211 t212 from qz3) (rr_ HO206.out) (by decide)) hk (fun _ h => h.2)) (fun _ h => h.1))
     replace HO215 := aM (Kd.R_mono (Kd.R_keep (IsS122.apart (show IsS122 w0 _ g s0_0 t211 t212 from qz3) (rr_ HO215.out) (by decide)) hk (fun _ h => h.2)) (fun _ h => h.1))
     replace HK := aM (KeepBut.trans qz2 hk (.inl rfl))
     replace HB := aM (hb)
     replace HI0 := aM (hi)
     (try clear hb)
     (try clear hb2)
     (try clear hk)
     (try clear hi)
     refine hK.out _ _ ⟨(blk_cell BK200.out 0).trans rfl, (blk_cell BK200.out 1).trans rfl, (blk_cell BK200.out 2).trans rfl⟩ (fun hHeld => ?_)
     clear hK K
     refine nm_ 39 ?_
     refine pI_ 11 40 (bqz 16 4095) ?_
     refine one_ (i := 12) (N := some 41) (bqz 16 8191) rfl rfl qzc (by decide) (fun K hK => ?_)
     refine value_ (w1 := ?_) (v := ?_) (by rfl) rfl ?_ ?_
     rotate_left 2
     {
     go_simp
     constructor
     {
     rfl
     }
     {
     rfl
     }
     }
     refine hK.out _ _ ⟨(blk_cell (blk_alloc BK200.out _) 0).trans rfl, (blk_cell (blk_alloc BK200.out _) 1).trans rfl, (blk_cell (blk_alloc BK200.out _) 2).trans rfl⟩ (fun hHeld => ?_)
     clear hK K
     refine nm_ 41 ?_
     refine one_ (i := 13) (N := some 42) (bqz 16 16383) rfl rfl qzc (by decide) (fun K hK => ?_)
     refine Kd.R_append_step k72 w.heap.size (by rfl) (.tmp 30) (.tmp 41) 77 72 (.agg #[(.int .i64 0), (.int .i64 0), (.int .i64 0)]) 24 rfl Try.underlying77 info72 rfl (by decide) (by omega) u201002 x201002_2 (⟨x6_2, t207, t216⟩ : S72) [.int .i64 x6_2, .int .i64 t207, .int .i64 t216] (fun _ => True) (fun _ => False) rfl rfl ?aP (fun _ hk => hk.elim) ?aF ?aO (Below.refl _ _) ?aS ?aL ?_
     (case aP => exact k72_mkM _ _ _ (⟨x6_2, t207, t216⟩ : S72))
     (case aF => exact (fun _ _ => trivial))
     (case aO => exact (rr_ HO_201002.out))
     (case aS => exact (keep_size (w := w) (g := g) (row := none) qz2))
     (case aL => have := LMc22.out; omega)
     intro v220 w33 ho hb hg hat
     rw [← Ny219.out] at ho
     replace HO_197000 := aM (Kd.S_after (ok := (fun k_ => k_ ≠ gb200)) (by (with_reducible repeat (first | apply Kd.S_alloc | apply Kd.S_drewN | apply Kd.S_drew)); exact Kd.S_mono HO_197000.out (fun _ hk => ⟨hk.2, hk.1⟩)) hg hat)
     replace BK195 := aM (blk_grown (bk_ BK195.out) hg (Kd.R_ne HO_201002.out BK195.out (by decide)))
     replace BK196 := aM (blk_grown (bk_ BK196.out) hg (Kd.R_ne HO_201002.out BK196.out (by decide)))
     replace BK200 := aM (blk_grown (bk_ BK200.out) hg (Kd.R_ne HO_201002.out BK200.out (by decide)))
     replace HO206 := aM (Kd.R_over' (rr_ HO206.out) (Kd.R_typed (rr_ HO_201002.out)) (by decide) hg)
     replace HO215 := aM (Kd.R_over' (rr_ HO215.out) (Kd.R_typed (rr_ HO_201002.out)) (by decide) hg)
     replace HB := aM (below_weaken qz1 HL.out hb)
     replace HI0 := aM (IsS122.grown qz3 hg (IsS122.own_ne HI0.out HO_201002.out (by decide)))
     replace HK := aM (KeepBut.trans qz2 (KeepBut.of_grown hg g) (Kd.R_base2 HO_201002.out))
     have HO221 := aM (ho)
     clear HO_201002 ho hb hg hat
     obtain ⟨Ao34, co34, eo34⟩ := Kd.R_slice HO221.out
     (first | subst eo34 | (injection eo34 with f1_ f2_ f3_; have f4_ := f1_.symm; have f5_ := f3_.symm; clear f1_ f2_ f3_; subst f4_; subst f5_))
     refine hK.out _ _ ⟨(blk_cell BK200.out 0).trans rfl, (blk_cell BK200.out 1).trans rfl, (blk_cell BK200.out 2).trans rfl⟩ (fun hHeld => ?_)
     clear hK K
     refine nm_ 42 ?_
     refine pI_ 14 43 (bqz 16 32767) ?_
     refine last_ (i := 15) (N := none) (bqz 16 65535) rfl rfl qzc (by decide) (fun K hK => ?_)
     have hs35 : w33.cell? ⟨gb200, 2, none⟩ = some (u201002) := (blk_cell BK200.out 2).trans rfl
     have hfs35 := blk_frozen BK200.out 2
     have hns35_0 := NB195_200.out
     have hns35_1 := NB196_200.out
     have hms35_0 := NB200_195.out
     have hms35_1 := NB200_196.out
     refine sk_ ?_
     refine hK.out _ _ ?_
     clear hK K
     refine done_ (done_of HT_.out (by kernel_rfl)) ?_
     try go_wp2
     go_roundg k2
     case measure => have := HK1.out; have := HK2.out; omega
     case rel => exact ⟨(wrap64 (x6_2 + 1)), (t217), (t218), (y219), (.slice Ao34 y219.length co34), qz6, H', ⟨by have := HK1.out; have := HK2.out; omega⟩, ⟨by (with_reducible repeat (first | apply Kd.S_alloc | apply Kd.S_drewN | apply Kd.S_drew)); exact Kd.S_mono (Kd.S_far (p := ⟨gb200, 2, none⟩) (Kd.S_mono HO_197000.out (fun k_ hk => (⟨hk, hk.1⟩ : _ ∧ k_ ≠ gb200))) (fun _ hk => hk.2) (.slice Ao34 y219.length co34)) (fun _ hk => ⟨hk.1.2, hk.1.1⟩)⟩, ⟨by (with_reducible repeat (first | apply Kd.R_alloc | apply Kd.R_drewN | apply Kd.R_drew)); exact Kd.R_mono (Kd.R_far (p := ⟨gb200, 2, none⟩) (Kd.R_types HO221.out BK200.out (by decide)) (fun _ hk => hk.2) (.slice Ao34 y219.length co34)) (fun _ hk => trivial)⟩, ⟨by (with_reducible repeat (first | refine blk_drewN ?_ _ | refine blk_drew ?_ | refine blk_alloc ?_ _)); refine blk_far ?_ NB195_200.out _; exact bk_ BK195.out⟩, ⟨by (with_reducible repeat (first | refine blk_drewN ?_ _ | refine blk_drew ?_ | refine blk_alloc ?_ _)); refine blk_far ?_ NB196_200.out _; exact bk_ BK196.out⟩, ⟨by (with_reducible repeat (first | refine blk_drewN ?_ _ | refine blk_drew ?_ | refine blk_alloc ?_ _)); refine blk_put (cs := #[.int .i64 (wrap64 (x4_1 * 10)), .int .i64 (wrap64 (20 - x4_1)), u201002]) ?_ 2 _ rfl; exact bk_ BK200.out⟩, ⟨qz3⟩, ⟨qz2⟩, ⟨qz1⟩⟩
     }
     {
     exact an_ c22 H
     }
     }
     {
     rw [if_neg c19] at H
     have c19b0 := decide_eq_false c19
     clear c19
     have H' := aM H
     clear H
     go_wp2_with (first | ((with_reducible refine gate_dst (N := 25) rfl ?_); refine Kd.R_lit (Kd.int .i64) _ 3 ?hg (N := 25) ?hd (xs := ([0, 0, 1, 3, 5, 12] : List Int)) (inner := [.int .i64 0, .int .i64 0, .int .i64 1, .int .i64 3, .int .i64 5, .int .i64 12]) (ok := fun _ => True) (okp := fun _ => True) ?hr ?hp (fun _ hk => hk) trivial (Below.refl _ _) (Nat.le_refl _) (by simp) ?_; (case hd => rfl); (case hg => rfl); (case hr => exact qz27); (case hp => exact qz29); intro v205 w36 ho37 hb hg_ hnew_; clear hg_ hnew_; (first | rw [← Ny204.out] at ho37 | (simp only [Int.reduceToNat] at ho37; rw [← Ny204.out] at ho37)); replace HO_197000 := aM (Kd.S_below (rs_ HO_197000.out) hb); replace HO_201002 := aM (Kd.R_below (rr_ HO_201002.out) hb); have HO206 := aM (Kd.R_lower ho37 (keep_size (w := w) (g := g) (row := none) qz2)); replace BK195 := bB_ BK195 hb; replace BK196 := bB_ BK196 hb; replace BK200 := bB_ BK200 hb; replace HK := aM (KeepBut.trans qz2 (KeepBut.of_below hb g none) (.inl rfl)); replace HB := bS_ hb; replace HI0 := aM (IsS122.below qz3 hb); clear hb ho37; obtain ⟨Ao38, co38, eo38⟩ := Kd.R_slice HO206.out; subst eo38) | ((with_reducible refine gate_callee (f := 92) rfl ?_); refine goesL_ (some 26) rfl rfl Try.func92 (by kernel_rfl) rfl #[.pointer (some ⟨g, 0, none⟩), .slice Ao38 y204.length co38] rfl qz4 ?_; (with_reducible refine (spec_l1Int.calls g s0_0 x1001_2 x1002_2 _ _ y204 t207 t208 t209 w0 _ ?side1 ?side2 ?side3 ?side4 ?side5 A18.out).mono ?_); (case side1 => exact qz3); (case side2 => exact qz1); (case side3 => repeat (first | exact (Kd.R_reads' HO206.out).2.2 | (with_reducible refine Kd.C_alloc ?_ _) | (with_reducible refine Kd.C_drewN ?_ _) | (with_reducible refine Kd.C_drew ?_))); (case side4 => exact (Kd.R_reads' HO206.out).2.1); (case side5 => exact far_slice (IsS122.own_ne HI0.out HO206.out (by decide))); rintro e w39 ⟨rfl, hi, hb, hk⟩; refine ⟨_, rfl, ?_⟩; replace HO_197000 := aM (Kd.S_mono (Kd.S_keep (IsS122.apartS (show IsS122 w0 _ g s0_0 x1001_2 x1002_2 from qz3) (rs_ HO_197000.out) (by decide)) hk (fun _ h => h.2)) (fun _ h => h.1)); replace HO_201002 := aM (Kd.R_mono (Kd.R_keep (IsS122.apart (show IsS122 w0 _ g s0_0 x1001_2 x1002_2 from qz3) (rr_ HO_201002.out) (by decide)) hk (fun _ h => h.2)) (fun _ h => h.1)); replace BK195 := aM (KeepBut.blk hk (bk_ BK195.out) NB195_0.out (by simp)); replace BK196 := aM (KeepBut.blk hk (bk_ BK196.out) NB196_0.out (by simp)); replace BK200 := aM (KeepBut.blk hk (bk_ BK200.out) NB200_0.out (by simp)); replace HO206 := aM (Kd.R_mono (Kd.R_keep (IsS122.apart (show IsS122 w0 _ g s0_0 x1001_2 x1002_2 from qz3) (rr_ HO206.out) (by decide)) hk (fun _ h => h.2)) (fun _ h => h.1)); replace HK := aM (KeepBut.trans qz2 hk (.inl rfl)); replace HB := aM (hb); replace HI0 := aM (hi); (try clear hb); (try clear hb2); (try clear hk); (try clear hi)))
     go_roundg k2
     case measure => have := HK1.out; have := HK2.out; omega
     case rel => exact ⟨(wrap64 (x6_2 + 1)), (t208), (t209), (x201002_2), (u201002), qz6, H', ⟨by have := HK1.out; have := HK2.out; omega⟩, ⟨rm_ HO_197000.out⟩, ⟨rm_ HO_201002.out⟩, ⟨bk_ BK195.out⟩, ⟨bk_ BK196.out⟩, ⟨bk_ BK200.out⟩, ⟨qz3⟩, ⟨qz2⟩, ⟨qz1⟩⟩
     }
     }
     {
     rw [if_neg c17] at H
     have c17b0 := decide_eq_false c17
     clear c17
     by_cases c40 : x197000_1.length < 3518437208883
     {
     rw [if_pos c40] at H
     have LMc40 := aM c40
     clear c40
     obtain ⟨y201, hy201⟩ : ∃ y_ : List (S79), y_ = (x197000_1 ++ [(⟨(wrap64 (x4_1 * 10)), (wrap64 (20 - x4_1)), x201002_2⟩ : S79)]) := ⟨_, rfl⟩
     replace H : (spec_l5Draw.l0 k2 (wrap64 (x4_1 + 1)) s0_0 x1001_2 x1002_2 y201) = some (r1, r2, r3) := by first | (rw [hy201]; with_reducible exact H) | (have H2_ := (Option.bind_some _ _).symm.trans H; rw [hy201]; with_reducible exact H2_) | (have H2_ := (Option.bind_some _ _).symm.trans H; with_reducible exact H2_) | with_reducible exact H | (rw [hy201]; exact H) | exact H
     have Ny201 := aM hy201
     clear hy201
     have H' := aM H
     clear H
     have hnb41 := NB196_195.out
     have hnc41 := NB195_196.out
     have hnb42 := NB196_200.out
     have hnc42 := NB200_196.out
     have hnb43 := NB196_0.out
     have hnc43 := NB0_196.out
     obtain ⟨hcz44_0, hfz44_0⟩ := bf_ BK196.out
     have hnb45 := NB200_195.out
     have hnc45 := NB195_200.out
     have hnb46 := NB200_0.out
     have hnc46 := NB0_200.out
     obtain ⟨hcz47_0, hcz47_1, hcz47_2, hfz47_0, hfz47_1, hfz47_2⟩ := b6_ BK200.out
     obtain ⟨Ao49, co49, eo49⟩ := Kd.R_slice HO_201002.out
     subst eo49
     go_wp2_with (first | ((with_reducible refine gate_builtin (b := .append) (xs := #[.tmp 45, .tmp 47]) rfl ?_); at_builtin; refine Kd.S_append k79 w.heap.size rfl (.tmp 45) (.tmp 47) 24 79 (.agg #[(.int .i64 0), (.int .i64 0), (.slice none 0 0)]) 40 rfl Try.underlying24 info79 rfl (by decide) (by omega) u197000 x197000_1 (⟨(wrap64 (x4_1 * 10)), (wrap64 (20 - x4_1)), x201002_2⟩ : S79) [.int .i64 (wrap64 (x4_1 * 10)), .int .i64 (wrap64 (20 - x4_1)), .slice Ao49 x201002_2.length co49] (fun k_ => k_ ≠ gb200) (fun k_ => some k_ = (.slice Ao49 x201002_2.length co49 : Value).ownBlock) rfl rfl ?aP (fun k_ hk_ => ((Kd.R_mono (ok' := fun k_ => ((fun k_ => k_ ≠ gb200)) k_ ∧ some k_ ≠ (u197000 : Value).ownBlock) (Kd.R_types (Kd.R_apart' (HO_201002.out) (Kd.S_typed HO_197000.out) (by decide)) BK200.out (by decide)) (fun k_ hk => ⟨hk.2, hk.1.2⟩))).1 k_ hk_.symm) ?aF ?aO (Below.refl _ _) ?aS ?aL ?_; (case aP => exact k79_mkM _ _ _ (⟨(wrap64 (x4_1 * 10)), (wrap64 (20 - x4_1)), x201002_2⟩ : S79) (Kd.R_mono (Kd.R_tight rfl (Kd.R_mono (ok' := fun k_ => ((fun k_ => k_ ≠ gb200)) k_ ∧ some k_ ≠ (u197000 : Value).ownBlock) (Kd.R_types (Kd.R_apart' (HO_201002.out) (Kd.S_typed HO_197000.out) (by decide)) BK200.out (by decide)) (fun k_ hk => ⟨hk.2, hk.1.2⟩))) (fun _ h_ => h_))); (case aF => exact (fun k_ hk => Kd.freshB (bk_ BK200.out) k_ hk)); (case aO => exact (by (with_reducible repeat (first | apply Kd.S_alloc | apply Kd.S_drewN | apply Kd.S_drew)); exact Kd.S_mono HO_197000.out (fun k_ hk => ⟨hk.2, fun e_ => hk.1 e_⟩))); (case aS => exact (keep_size (w := w) (g := g) (row := none) qz2)); (case aL => have := LMc40.out; omega); intro v202 w48 ho hb hg hat; rw [← Ny201.out] at ho; replace BK195 := aM (blk_grown (bk_ BK195.out) hg (Kd.S_ne HO_197000.out BK195.out (by decide))); replace BK196 := aM (blk_grown (bk_ BK196.out) hg (Kd.S_ne HO_197000.out BK196.out (by decide))); replace BK200 := aM (blk_grown (bk_ BK200.out) hg (Kd.S_away HO_197000.out (fun _ hk => hk.2))); replace HB := aM (below_weaken qz1 HL.out hb); replace HI0 := aM (IsS122.grown qz3 hg (IsS122.own_neS HI0.out HO_197000.out (by decide))); replace HK := aM (KeepBut.trans qz2 (KeepBut.of_grown hg g) (Kd.S_base2 HO_197000.out)); have HO203 := aM (ho); clear HO_197000 HO_201002; clear ho hb hg hat; obtain ⟨Ao50, co50, eo50⟩ := Kd.S_slice HO203.out; subst eo50; obtain ⟨hcz51_0, hfz51_0⟩ := bf_ BK196.out))
     go_roundg k2
     case measure => have := HK1.out; have := HK2.out; omega
     case rel => exact ⟨(wrap64 (x4_1 + 1)), (x1001_2), (x1002_2), (y201), (.slice Ao50 y201.length co50), qz6, H', ⟨by have := HK1.out; have := HK2.out; omega⟩, ⟨by (with_reducible repeat (first | apply Kd.S_alloc | apply Kd.S_drewN | apply Kd.S_drew)); exact Kd.S_mono (Kd.S_far (p := ⟨gb196, 0, none⟩) (Kd.S_types HO203.out BK196.out (by decide)) (fun _ hk => hk.2) (.slice Ao50 y201.length co50)) (fun _ hk => trivial)⟩, ⟨by (with_reducible repeat (first | refine blk_drewN ?_ _ | refine blk_drew ?_ | refine blk_alloc ?_ _)); refine blk_far ?_ NB195_196.out _; exact bk_ BK195.out⟩, ⟨by (with_reducible repeat (first | refine blk_drewN ?_ _ | refine blk_drew ?_ | refine blk_alloc ?_ _)); refine blk_put (cs := #[u197000]) ?_ 0 _ rfl; exact bk_ BK196.out⟩, ⟨qz3⟩, ⟨qz2⟩, ⟨qz1⟩⟩
     }
     {
     exact an_ c40 H
     }
     }
   }
   }
   {
   rw [if_neg c7] at H
   have c7b0 := decide_eq_false c7
   clear c7
   simp only [Option.some.injEq, Prod.mk.injEq] at H
   obtain ⟨rfl, rfl, rfl⟩ := H
   have hnb52 := NB196_195.out
   have hnc52 := NB195_196.out
   have hnb53 := NB196_0.out
   have hnc53 := NB0_196.out
   obtain ⟨hcz54_0, hfz54_0⟩ := bf_ BK196.out
   obtain ⟨Ao55, co55, eo55⟩ := Kd.S_slice HO_197000.out
   subst eo55
   have hnb56 := NB195_0.out
   have hnc56 := NB0_195.out
   obtain ⟨hcz57_0, hfz57_0⟩ := bf_ BK195.out
   go_wp2
   refine bodyPost_ret (results_cell_row rfl _ _ gb195 26 #[.slice Ao55 x197000_1.length co55] (0, 0) _ rfl (by (with_reducible repeat (first | refine blk_drewN ?_ _ | refine blk_drew ?_ | refine blk_alloc ?_ _)); refine blk_put (cs := #[.slice none 0 0]) ?_ 0 _ rfl; exact bk_ BK195.out) Try.underlying26 rfl (by kernel_rfl)) rfl ?_
   exact ⟨_, qzw, by (with_reducible repeat (first | apply Kd.S_alloc | apply Kd.S_drewN | apply Kd.S_drew)); exact Kd.S_mono (Kd.S_far (p := ⟨gb195, 0, none⟩) (Kd.S_types HO_197000.out BK195.out (by decide)) (fun _ hk => hk.2) (.slice Ao55 x197000_1.length co55)) (fun _ hk => trivial), qz3, qz1, qz2⟩

   }
end Go.Proofs.Yteajnkondkfmgaa.PFnTaken
