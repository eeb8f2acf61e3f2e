-- Made by a program of this session out of the translation. Lean checks it.
import Derived.Test.YteajnkondkfmgaaPFnPicksx0
import Derived.Test.YteajnkondkfmgaaPFnPicksx5
namespace Go.Proofs.Yteajnkondkfmgaa.PFnPicks
open Go.RowKit Go.Proofs.YteajnkondkfmgaaW.PrintWords Go.Proofs.YteajnkondkfmgaaW.PrintLast Go.Proofs.YteajnkondkfmgaaW.PrintMore
attribute [local go_sem] max2_int min2_int max_two min_two max_three min_three max_four min_four   -- for this text's walks alone
set_option linter.unusedVariables false
set_option linter.unusedSimpArgs false

/-! ### spec_l1Once: function 102 -/
def spec_l1Once.f (s0_0 : List Int) (s0_1 : Int) (s0_2 : Int) (a1 : Int) : Option (Bool × Int × Int) := (spec_l1Below.f s0_0 s0_1 s0_2 a1).bind fun bt167 => (some ((bt167.1 == 0), bt167.2.1, bt167.2.2))
set_option maxHeartbeats 8000000 in
set_option maxRecDepth 100000 in
theorem spec_l1Once.calls (g : Nat) (s0_0 : List Int) (s0_1 : Int) (s0_2 : Int) (a1 : Int) (r1 : Bool) (r2 : Int) (r3 : Int) (w0 w : World) (hI : IsS122 w0 w g s0_0 s0_1 s0_2) (hB : Below w0.heap.size w0 w) (h : spec_l1Once.f s0_0 s0_1 s0_2 a1 = some (r1, r2, r3)) :
  Calls Try.prog 102 #[.pointer (some ⟨g, 0, none⟩), .int .i64 a1] w fun e w' => e = .returned (.bool r1) ∧ IsS122 w0 w' g s0_0 r2 r3 ∧ Below w0.heap.size w0 w' ∧ KeepBut w w' g none := by
 have HI0 := aM hI
 have HK := aM (KeepBut.refl w g none)
 have HL := aM hB.size
 clear hI
 have HW0 := aM hB.size
 have HB := aM hB
 clear hB
 have H : ((spec_l1Below.f s0_0 s0_1 s0_2 a1).bind fun bt167 => (some ((bt167.1 == 0), bt167.2.1, bt167.2.2))) = some (r1, r2, r3) := h
 clear h
 replace H := Option.bind_eq_some_iff.mp H
 obtain ⟨⟨t167, t168, t169⟩, A30, H⟩ := H
 replace H : (some ((t167 == 0), t168, t169)) = some (r1, r2, r3) := H
 have A3 := aM A30
 clear A30
 simp only [Option.some.injEq, Prod.mk.injEq] at H
 obtain ⟨rfl, rfl, rfl⟩ := H
 go_enter Try.func102, Try.ntmps102
 go_wp2_with (first | ((with_reducible refine gate_callee (f := 105) rfl ?_); refine goesL_ (some 7) rfl rfl Try.func105 (by kernel_rfl) rfl #[.pointer (some ⟨g, 0, none⟩), .int .i64 a1] rfl qz4 ?_; (with_reducible refine (spec_l1Below.calls g s0_0 s0_1 s0_2 a1 t167 t168 t169 w0 _ ?side1 ?side2 A3.out).mono ?_); (case side1 => exact qz3); (case side2 => exact qz1); rintro e w4 ⟨rfl, hi, hb, hk⟩; refine ⟨_, rfl, ?_⟩; replace HK := aM (KeepBut.trans qz2 hk (.inl rfl)); replace HB := aM (hb); replace HI0 := aM (hi); (try clear hb); (try clear hb2); (try clear hk); (try clear hi)))
 go_ret
 exact ⟨qzw, qz3, qz1, qz2⟩

/-! ### spec_l5Draw: function 101 -/
mutual
def spec_l5Draw.l0 : Nat → Int → List Int → Int → Int → List (S79) → Option ((List (S79)) × Int × Int)
 | 0, _, _, _, _, _ => none
 | k + 1, x4, x1000, x1001, x1002, x172000 => if x4 < 6 then ((spec_l1Once.f x1000 x1001 x1002 4).bind fun bt172 => (if bt172.1 = true then (spec_l5Draw.l0 k (wrap64 (x4 + 1)) x1000 bt172.2.1 bt172.2.2 x172000) else (spec_l5Draw.l1 k x4 1 x1000 bt172.2.1 bt172.2.2 x172000 (wrap64 (x4 * 10)) (wrap64 (20 - x4)) ([] : List (S72))))) else (some (x172000, x1001, x1002))
def spec_l5Draw.l1 : Nat → Int → Int → List Int → Int → Int → List (S79) → Int → Int → List (S72) → Option ((List (S79)) × Int × Int)
 | 0, _, _, _, _, _, _, _, _, _ => none
 | k + 1, x4, x6, x1000, x1001, x1002, x172000, x176000, x176001, x176002 => if x6 < 6 then ((spec_l1Int.f x1000 x1001 x1002 (([0, 0, 1, 3, 5, 12] : List Int))).bind fun bt182 => (if bt182.1 > 0 then ((spec_l1Below.f x1000 bt182.2.1 bt182.2.2 (wrap64 (bt182.1 + 1))).bind fun bt185 => ((spec_l1Int.f x1000 bt185.2.1 bt185.2.2 (([0, 0, 0, bt185.1] : List Int))).bind fun bt191 => (if x176002.length < 5864062014805 then (spec_l5Draw.l1 k x4 (wrap64 (x6 + 1)) x1000 bt191.2.1 bt191.2.2 x172000 x176000 x176001 (x176002 ++ [(⟨x6, bt182.1, bt191.1⟩ : S72)])) else (none)))) else (spec_l5Draw.l1 k x4 (wrap64 (x6 + 1)) x1000 bt182.2.1 bt182.2.2 x172000 x176000 x176001 x176002))) else (if x172000.length < 3518437208883 then (spec_l5Draw.l0 k (wrap64 (x4 + 1)) x1000 x1001 x1002 (x172000 ++ [(⟨x176000, x176001, x176002⟩ : S79)])) else (none))
end
def spec_l5Draw.f (k : Nat) (s0_0 : List Int) (s0_1 : Int) (s0_2 : Int) : Option ((List (S79)) × Int × Int) := spec_l5Draw.l0 k 1 s0_0 s0_1 s0_2 ([] : List (S79))
theorem spec_l5Draw.mono_l : ∀ k, (∀ y0 y1 y2 y3 y4, LeO (spec_l5Draw.l0 k y0 y1 y2 y3 y4) (spec_l5Draw.l0 (k + 1) y0 y1 y2 y3 y4)) ∧ (∀ y0 y1 y2 y3 y4 y5 y6 y7 y8, LeO (spec_l5Draw.l1 k y0 y1 y2 y3 y4 y5 y6 y7 y8) (spec_l5Draw.l1 (k + 1) y0 y1 y2 y3 y4 y5 y6 y7 y8))
 | 0 => ⟨fun _ _ _ _ _ r h => by simp [spec_l5Draw.l0] at h, fun _ _ _ _ _ _ _ _ _ r h => by simp [spec_l5Draw.l1] at h⟩
 | k + 1 => by
  obtain ⟨ih0, ih1⟩ := spec_l5Draw.mono_l k
  refine ⟨?_, ?_⟩
  {
  intro y0 y1 y2 y3 y4
  unfold spec_l5Draw.l0
  exact qL
  }
  {
  intro y0 y1 y2 y3 y4 y5 y6 y7 y8
  unfold spec_l5Draw.l1
  exact qL
  }
theorem spec_l5Draw.mono : ∀ a0 a1 a2 k, LeO (spec_l5Draw.f k a0 a1 a2) (spec_l5Draw.f (k + 1) a0 a1 a2) := by
 intro a0 a1 a2 k
 obtain ⟨ih0, ih1⟩ := spec_l5Draw.mono_l k
 unfold spec_l5Draw.f
 exact qL
def spec_l5Draw.T12 : Bool × List (List Nat × List Nat) := (true, [([], []), ([0], [0]), ([], []), ([], []), ([], []), ([], []), ([], []), ([6], [6]), ([5, 7], [5, 7]), ([8], [8]), ([4, 9, 8], [4, 9]), ([2, 3, 10], [2, 3, 10]), ([11], [11]), ([1, 12, 10], [1, 12]), ([0, 1, 2, 3, 4, 5, 6, 7, 8, 9, 10, 11, 12, 13], []), ([14, 13, 13, 0, 1, 2, 3, 4, 5, 6, 7, 8, 9, 10, 11, 12, 13], [13, 14])])
def spec_l5Draw.B12 : List Nat := [0, 1, 0, 0, 0, 0, 0, 64, 224, 480, 1008, 2044, 4092, 8191, 16383, 32767]
theorem spec_l5Draw.tab12 : rtab .any (opsOf Try.f101 12) = spec_l5Draw.T12 := by kernel_rfl
theorem spec_l5Draw.bits12 : waitsOk spec_l5Draw.T12.2 spec_l5Draw.B12 = true := by kernel_rfl
set_option maxHeartbeats 8000000 in
set_option maxRecDepth 100000 in
theorem spec_l5Draw.calls (k : Nat) (g : Nat) (s0_0 : List Int) (s0_1 : Int) (s0_2 : Int) (r1 : List (S79)) (r2 : Int) (r3 : Int) (w0 w : World) (hI : IsS122 w0 w g s0_0 s0_1 s0_2) (hB : Below w0.heap.size w0 w) (h : spec_l5Draw.f k s0_0 s0_1 s0_2 = some (r1, r2, r3)) :
  Calls Try.prog 101 #[.pointer (some ⟨g, 0, none⟩)] w fun e w' => ∃ v0_ : Value, e = .returned (.agg #[v0_]) ∧ Kd.S k79 79 w' w.heap.size (fun _ => True) v0_ r1 ∧ IsS122 w0 w' g s0_0 r2 r3 ∧ Below w0.heap.size w0 w' ∧ KeepBut w w' g none := by
 have hu26 := Try.underlying26
 have hu79 := Try.underlying79
 have hu72 := Try.underlying72
 have HI0 := aM hI
 have HK := aM (KeepBut.refl w g none)
 have HL := aM hB.size
 clear hI
 have HW0 := aM hB.size
 have HB := aM hB
 clear hB
 have H : (spec_l5Draw.l0 k 1 s0_0 s0_1 s0_2 ([] : List (S79))) = some (r1, r2, r3) := h
 clear h
 have H' := aM H
 clear H
 go_enter Try.func101, Try.ntmps101
 go_wp2_with (first | ((with_reducible refine gate_dst (N := 2) rfl ?_); refine bx_ 2 #[.slice none 0 0] 26 ?_; intro gb170 hg w2 hbox hb; replace HB := bS_ hb; have BK170 := aM (hbox); have GW170 := aM (kz_ w g hg qz2); have GE170 := aM ((Nat.le_trans HW0.out (by rw [hg]; exact (keep_size (w := w) (g := g) (row := none) qz2) : w.heap.size ≤ gb170) : w0.heap.size ≤ gb170)); replace HK := aM (KeepBut.trans qz2 (KeepBut.of_below hb g none) (.inl rfl)); have NB0_170 := aM ((by rw [hg]; exact Nat.ne_of_lt (IsS122.lt (show IsS122 w0 _ g s0_0 s0_1 s0_2 from qz3)) : g ≠ gb170)); have NB170_0 := aM ((by rw [hg]; exact Nat.ne_of_gt (IsS122.lt (show IsS122 w0 _ g s0_0 s0_1 s0_2 from qz3)) : gb170 ≠ g)); replace HI0 := aM (IsS122.below qz3 hb); clear hb hbox hg) | ((with_reducible refine gate_dst (N := 3) rfl ?_); refine bx_ 3 #[.slice none 0 0] 26 ?_; intro gb171 hg w3 hbox hb; replace HB := bS_ hb; have BK171 := aM (hbox); have GW171 := aM (kz_ w g hg qz2); have GE171 := aM ((Nat.le_trans HW0.out (by rw [hg]; exact (keep_size (w := w) (g := g) (row := none) qz2) : w.heap.size ≤ gb171) : w0.heap.size ≤ gb171)); replace HK := aM (KeepBut.trans qz2 (KeepBut.of_below hb g none) (.inl rfl)); obtain ⟨NB170_171, NB171_170⟩ := nb_ hg (bk_ BK170.out); replace BK170 := bB_ BK170 hb; have NB0_171 := aM ((by rw [hg]; exact Nat.ne_of_lt (IsS122.lt (show IsS122 w0 _ g s0_0 s0_1 s0_2 from qz3)) : g ≠ gb171)); have NB171_0 := aM ((by rw [hg]; exact Nat.ne_of_gt (IsS122.lt (show IsS122 w0 _ g s0_0 s0_1 s0_2 from qz3)) : gb171 ≠ g)); replace HI0 := aM (IsS122.below qz3 hb); clear hb hbox hg; have hnb4 := NB171_170.out; have hnc4 := NB170_171.out; have hnb5 := NB171_0.out; have hnc5 := NB0_171.out; obtain ⟨hcz6_0, hfz6_0⟩ := bf_ BK171.out))
 go_loopg [4] k (fun kq v4 w' => ∃ (x4_1 : Int) (x1001_1 : Int) (x1002_1 : Int) (x172000_1 : List (S79)) (u172000 : Value), v4 = .int .i64 x4_1 ∧ Aside0 (spec_l5Draw.l0 kq x4_1 s0_0 x1001_1 x1002_1 x172000_1 = some (r1, r2, r3)) ∧ Aside0 (kq ≤ k) ∧ Aside0 (Kd.S k79 79 w' w.heap.size (fun _ => True) u172000 x172000_1) ∧ Aside0 (w'.heap[gb170]? = some (.cells #[(.slice none 0 0)] 26 (0, 0))) ∧ Aside0 (w'.heap[gb171]? = some (.cells #[u172000] 26 (0, 0))) ∧ Aside0 (IsS122 w0 w' g s0_0 x1001_1 x1002_1) ∧ Aside0 (KeepBut w w' g none) ∧ Aside0 (Below w0.heap.size w0 w'))
 case atStart => exact ⟨(1), (s0_1), (s0_2), (([] : List (S79))), (.slice none 0 0), qz5, H', ⟨Nat.le_refl _⟩, ⟨by first | exact Kd.S_nil _ _ _ _ _ | exact Kd.N_nil _ _ _ _ _ | exact Kd.V_nil _ _ _ _ _ | exact Kd.Q_nil _ _ _ _ _ | exact Kd.R_nil _ _ _ _ _⟩, ⟨by (with_reducible repeat (first | refine blk_drewN ?_ _ | refine blk_drew ?_ | refine blk_alloc ?_ _)); refine blk_far ?_ NB170_171.out _; exact bk_ BK170.out⟩, ⟨by (with_reducible repeat (first | refine blk_drewN ?_ _ | refine blk_drew ?_ | refine blk_alloc ?_ _)); refine blk_put (cs := #[.slice none 0 0]) ?_ 0 _ rfl; exact bk_ BK171.out⟩, ⟨qz3⟩, ⟨qz2⟩, ⟨qz1⟩⟩
 case round =>
  clear H'
  try clear c1
  try clear p2
  try clear c4
  try clear c5
  try clear hcz6_0
  try clear hfz6_0
  obtain ⟨x4_1, x1001_1, x1002_1, x172000_1, u172000, rfl, HA, HK1, HO_172000, BK170, BK171, HI0, HK, HB⟩ := hrel
  cases gk with
  | zero => exact absurd HA.out (by simp [spec_l5Draw.l0])
  | succ k1 =>
   have H := HA.out
   clear HA
   simp only [spec_l5Draw.l0] at H
   by_cases c7 : x4_1 < 6
   {
   rw [if_pos c7] at H
   have c7b0 := decide_eq_true c7
   clear c7
   replace H := Option.bind_eq_some_iff.mp H
   obtain ⟨⟨t172, t173, t174⟩, A80, H⟩ := H
   replace H : (if t172 = true then (spec_l5Draw.l0 k1 (wrap64 (x4_1 + 1)) s0_0 t173 t174 x172000_1) else (spec_l5Draw.l1 k1 x4_1 1 s0_0 t173 t174 x172000_1 (wrap64 (x4_1 * 10)) (wrap64 (20 - x4_1)) ([] : List (S72)))) = some (r1, r2, r3) := H
   have A8 := aM A80
   clear A80
   by_cases c9 : t172 = true
   {
   subst c9
   rw [if_pos rfl] at H
   have H' := aM H
   clear H
   go_wp2_with (first | ((with_reducible refine gate_callee (f := 102) rfl ?_); refine goesL_ (some 14) rfl rfl Try.func102 (by kernel_rfl) rfl #[.pointer (some ⟨g, 0, none⟩), .int .i64 4] rfl qz4 ?_; (with_reducible refine (spec_l1Once.calls g s0_0 x1001_1 x1002_1 4 true t173 t174 w0 _ ?side1 ?side2 A8.out).mono ?_); (case side1 => exact qz3); (case side2 => exact qz1); rintro e w10 ⟨rfl, hi, hb, hk⟩; refine ⟨_, rfl, ?_⟩; replace HO_172000 := aM (Kd.S_mono (Kd.S_keep (IsS122.apartS (show IsS122 w0 _ g s0_0 x1001_1 x1002_1 from qz3) (rs_ HO_172000.out) (by decide)) hk (fun _ h => h.2)) (fun _ h => h.1)); replace BK170 := aM (KeepBut.blk hk (bk_ BK170.out) NB170_0.out (by simp)); replace BK171 := aM (KeepBut.blk hk (bk_ BK171.out) NB171_0.out (by simp)); replace HK := aM (KeepBut.trans qz2 hk (.inl rfl)); replace HB := aM (hb); replace HI0 := aM (hi); (try clear hb); (try clear hb2); (try clear hk); (try clear hi)))
   go_roundg k1
   case measure => have := HK1.out; omega
   case rel => exact ⟨(wrap64 (x4_1 + 1)), (t173), (t174), (x172000_1), (u172000), qz5, H', ⟨by have := HK1.out; omega⟩, ⟨rm_ HO_172000.out⟩, ⟨bk_ BK170.out⟩, ⟨bk_ BK171.out⟩, ⟨qz3⟩, ⟨qz2⟩, ⟨qz1⟩⟩
   }
   {
   replace c9 := Bool.eq_false_iff.mpr c9
   subst c9
   rw [if_neg (show ¬ (false = true) by decide)] at H
   have H' := aM H
   clear H
   go_wp2_with (first | ((with_reducible refine gate_callee (f := 102) rfl ?_); refine goesL_ (some 14) rfl rfl Try.func102 (by kernel_rfl) rfl #[.pointer (some ⟨g, 0, none⟩), .int .i64 4] rfl qz4 ?_; (with_reducible refine (spec_l1Once.calls g s0_0 x1001_1 x1002_1 4 false t173 t174 w0 _ ?side1 ?side2 A8.out).mono ?_); (case side1 => exact qz3); (case side2 => exact qz1); rintro e w11 ⟨rfl, hi, hb, hk⟩; refine ⟨_, rfl, ?_⟩; replace HO_172000 := aM (Kd.S_mono (Kd.S_keep (IsS122.apartS (show IsS122 w0 _ g s0_0 x1001_1 x1002_1 from qz3) (rs_ HO_172000.out) (by decide)) hk (fun _ h => h.2)) (fun _ h => h.1)); replace BK170 := aM (KeepBut.blk hk (bk_ BK170.out) NB170_0.out (by simp)); replace BK171 := aM (KeepBut.blk hk (bk_ BK171.out) NB171_0.out (by simp)); replace HK := aM (KeepBut.trans qz2 hk (.inl rfl)); replace HB := aM (hb); replace HI0 := aM (hi); (try clear hb); (try clear hb2); (try clear hk); (try clear hi)) | ((with_reducible refine gate_dst (N := 5) rfl ?_); refine bx_ 5 #[.int .i64 0, .int .i64 0, .slice none 0 0] 79 ?_; intro gb175 hg w12 hbox hb; replace HO_172000 := aM (Kd.S_below (Kd.S_elderB (rs_ HO_172000.out) gb175 (Nat.le_of_eq hg.symm)) hb); replace HB := bS_ hb; have BK175 := aM (hbox); have GW175 := aM (kz_ w g hg qz2); have GE175 := aM ((Nat.le_trans HW0.out (by rw [hg]; exact (keep_size (w := w) (g := g) (row := none) qz2) : w.heap.size ≤ gb175) : w0.heap.size ≤ gb175)); replace HK := aM (KeepBut.trans qz2 (KeepBut.of_below hb g none) (.inl rfl)); obtain ⟨NB170_175, NB175_170⟩ := nb_ hg (bk_ BK170.out); replace BK170 := bB_ BK170 hb; obtain ⟨NB171_175, NB175_171⟩ := nb_ hg (bk_ BK171.out); replace BK171 := bB_ BK171 hb; have NB0_175 := aM ((by rw [hg]; exact Nat.ne_of_lt (IsS122.lt (show IsS122 w0 _ g s0_0 t173 t174 from qz3)) : g ≠ gb175)); have NB175_0 := aM ((by rw [hg]; exact Nat.ne_of_gt (IsS122.lt (show IsS122 w0 _ g s0_0 t173 t174 from qz3)) : gb175 ≠ g)); replace HI0 := aM (IsS122.below qz3 hb); clear hb hbox hg; have hnb13 := NB175_170.out; have hnc13 := NB170_175.out; have hnb14 := NB175_171.out; have hnc14 := NB171_175.out; have hnb15 := NB175_0.out; have hnc15 := NB0_175.out; obtain ⟨hcz16_0, hcz16_1, hcz16_2, hfz16_0, hfz16_1, hfz16_2⟩ := b6_ BK175.out))
   go_loopg [6] k1 (fun kq v6 w' => ∃ (x6_2 : Int) (x1001_2 : Int) (x1002_2 : Int) (x176002_2 : List (S72)) (u176002 : Value), v6 = .int .i64 x6_2 ∧ Aside0 (spec_l5Draw.l1 kq x4_1 x6_2 s0_0 x1001_2 x1002_2 x172000_1 (wrap64 (x4_1 * 10)) (wrap64 (20 - x4_1)) x176002_2 = some (r1, r2, r3)) ∧ Aside0 (kq ≤ k1) ∧ Aside0 (Kd.S k79 79 w' w.heap.size (fun k_ => some k_ ≠ (u176002 : Value).ownBlock ∧ k_ ≠ gb175) u172000 x172000_1) ∧ Aside0 (Kd.R k72 72 w' w.heap.size (fun _ => True) u176002 x176002_2) ∧ Aside0 (w'.heap[gb170]? = some (.cells #[(.slice none 0 0)] 26 (0, 0))) ∧ Aside0 (w'.heap[gb171]? = some (.cells #[u172000] 26 (0, 0))) ∧ Aside0 (w'.heap[gb175]? = some (.cells #[.int .i64 (wrap64 (x4_1 * 10)), .int .i64 (wrap64 (20 - x4_1)), u176002] 79 (0, 0))) ∧ Aside0 (IsS122 w0 w' g s0_0 x1001_2 x1002_2) ∧ Aside0 (KeepBut w w' g none) ∧ Aside0 (Below w0.heap.size w0 w'))
   case atStart => exact ⟨(1), (t173), (t174), (([] : List (S72))), (.slice none 0 0), qz5, H', ⟨Nat.le_refl _⟩, ⟨by (with_reducible repeat (first | apply Kd.S_alloc | apply Kd.S_drewN | apply Kd.S_drew)); exact Kd.S_mono (Kd.S_far (p := ⟨gb175, 2, none⟩) (Kd.S_far (p := ⟨gb175, 1, none⟩) (Kd.S_far (p := ⟨gb175, 0, none⟩) (Kd.S_mono HO_172000.out (fun k_ hk => (⟨hk, hk.2⟩ : _ ∧ k_ ≠ gb175))) (fun _ hk => hk.2) (.int .i64 (wrap64 (x4_1 * 10)))) (fun _ hk => hk.2) (.int .i64 (wrap64 (20 - x4_1)))) (fun _ hk => hk.2) (.slice none 0 0)) (fun _ hk => ⟨(by simp [Value.ownBlock]), hk.1.2⟩)⟩, ⟨by first | exact Kd.R_nil _ _ _ _ _ | exact Kd.N_nil _ _ _ _ _ | exact Kd.V_nil _ _ _ _ _ | exact Kd.Q_nil _ _ _ _ _ | exact Kd.S_nil _ _ _ _ _⟩, ⟨by (with_reducible repeat (first | refine blk_drewN ?_ _ | refine blk_drew ?_ | refine blk_alloc ?_ _)); refine blk_far ?_ NB170_175.out _; (with_reducible repeat (first | refine blk_drewN ?_ _ | refine blk_drew ?_ | refine blk_alloc ?_ _)); refine blk_far ?_ NB170_175.out _; (with_reducible repeat (first | refine blk_drewN ?_ _ | refine blk_drew ?_ | refine blk_alloc ?_ _)); refine blk_far ?_ NB170_175.out _; exact bk_ BK170.out⟩, ⟨by (with_reducible repeat (first | refine blk_drewN ?_ _ | refine blk_drew ?_ | refine blk_alloc ?_ _)); refine blk_far ?_ NB171_175.out _; (with_reducible repeat (first | refine blk_drewN ?_ _ | refine blk_drew ?_ | refine blk_alloc ?_ _)); refine blk_far ?_ NB171_175.out _; (with_reducible repeat (first | refine blk_drewN ?_ _ | refine blk_drew ?_ | refine blk_alloc ?_ _)); refine blk_far ?_ NB171_175.out _; exact bk_ BK171.out⟩, ⟨by (with_reducible repeat (first | refine blk_drewN ?_ _ | refine blk_drew ?_ | refine blk_alloc ?_ _)); refine blk_put (cs := #[.int .i64 (wrap64 (x4_1 * 10)), .int .i64 (wrap64 (20 - x4_1)), .slice none 0 0]) ?_ 2 _ rfl; (with_reducible repeat (first | refine blk_drewN ?_ _ | refine blk_drew ?_ | refine blk_alloc ?_ _)); refine blk_put (cs := #[.int .i64 (wrap64 (x4_1 * 10)), .int .i64 0, .slice none 0 0]) ?_ 1 _ rfl; (with_reducible repeat (first | refine blk_drewN ?_ _ | refine blk_drew ?_ | refine blk_alloc ?_ _)); refine blk_put (cs := #[.int .i64 0, .int .i64 0, .slice none 0 0]) ?_ 0 _ rfl; exact bk_ BK175.out⟩, ⟨qz3⟩, ⟨qz2⟩, ⟨qz1⟩⟩
   case round =>
    clear H'
    try clear c1
    try clear p2
    try clear c4
    try clear c5
    try clear p6
    try clear c7
    try clear c7b0
    try clear c9
    try clear c10
    try clear c13
    try clear c14
    try clear c15
    try clear hcz16_0
    try clear hcz16_1
    try clear hcz16_2
    try clear hcz6_0
    try clear hfz16_0
    try clear hfz16_1
    try clear hfz16_2
    try clear hfz6_0
    try clear p2
    obtain ⟨x6_2, x1001_2, x1002_2, x176002_2, u176002, rfl, HA, HK2, HO_172000, HO_176002, BK170, BK171, BK175, HI0, HK, HB⟩ := hrel
    cases gk with
    | zero => exact absurd HA.out (by simp [spec_l5Draw.l1])
    | succ k2 =>
     have H := HA.out
     clear HA
     simp only [spec_l5Draw.l1] at H
     by_cases c17 : x6_2 < 6
     {
     rw [if_pos c17] at H
     have c17b0 := decide_eq_true c17
     clear c17
     obtain ⟨y179, hy179⟩ : ∃ y_ : List Int, y_ = (([0, 0, 1, 3, 5, 12] : List Int)) := ⟨_, rfl⟩
     replace H : ((spec_l1Int.f s0_0 x1001_2 x1002_2 y179).bind fun bt182 => (if bt182.1 > 0 then ((spec_l1Below.f s0_0 bt182.2.1 bt182.2.2 (wrap64 (bt182.1 + 1))).bind fun bt185 => ((spec_l1Int.f s0_0 bt185.2.1 bt185.2.2 (([0, 0, 0, bt185.1] : List Int))).bind fun bt191 => (if x176002_2.length < 5864062014805 then (spec_l5Draw.l1 k2 x4_1 (wrap64 (x6_2 + 1)) s0_0 bt191.2.1 bt191.2.2 x172000_1 (wrap64 (x4_1 * 10)) (wrap64 (20 - x4_1)) (x176002_2 ++ [(⟨x6_2, bt182.1, bt191.1⟩ : S72)])) else (none)))) else (spec_l5Draw.l1 k2 x4_1 (wrap64 (x6_2 + 1)) s0_0 bt182.2.1 bt182.2.2 x172000_1 (wrap64 (x4_1 * 10)) (wrap64 (20 - x4_1)) x176002_2))) = some (r1, r2, r3) := by first | (rw [hy179]; with_reducible exact H) | (have H2_ := (Option.bind_some _ _).symm.trans H; rw [hy179]; with_reducible exact H2_) | (have H2_ := (Option.bind_some _ _).symm.trans H; with_reducible exact H2_) | with_reducible exact H | (rw [hy179]; exact H) | exact H
     have Ny179 := aM hy179
     clear hy179
     replace H := Option.bind_eq_some_iff.mp H
     obtain ⟨⟨t182, t183, t184⟩, A180, H⟩ := H
     replace H : (if t182 > 0 then ((spec_l1Below.f s0_0 t183 t184 (wrap64 (t182 + 1))).bind fun bt185 => ((spec_l1Int.f s0_0 bt185.2.1 bt185.2.2 (([0, 0, 0, bt185.1] : List Int))).bind fun bt191 => (if x176002_2.length < 5864062014805 then (spec_l5Draw.l1 k2 x4_1 (wrap64 (x6_2 + 1)) s0_0 bt191.2.1 bt191.2.2 x172000_1 (wrap64 (x4_1 * 10)) (wrap64 (20 - x4_1)) (x176002_2 ++ [(⟨x6_2, t182, bt191.1⟩ : S72)])) else (none)))) else (spec_l5Draw.l1 k2 x4_1 (wrap64 (x6_2 + 1)) s0_0 t183 t184 x172000_1 (wrap64 (x4_1 * 10)) (wrap64 (20 - x4_1)) x176002_2)) = some (r1, r2, r3) := H
     have A18 := aM A180
     clear A180
     by_cases c19 : t182 > 0
     {
     rw [if_pos c19] at H
     have c19b0 := decide_eq_true c19
     clear c19
     replace H := Option.bind_eq_some_iff.mp H
     obtain ⟨⟨t185, t186, t187⟩, A200, H⟩ := H
     replace H : ((spec_l1Int.f s0_0 t186 t187 (([0, 0, 0, t185] : List Int))).bind fun bt191 => (if x176002_2.length < 5864062014805 then (spec_l5Draw.l1 k2 x4_1 (wrap64 (x6_2 + 1)) s0_0 bt191.2.1 bt191.2.2 x172000_1 (wrap64 (x4_1 * 10)) (wrap64 (20 - x4_1)) (x176002_2 ++ [(⟨x6_2, t182, bt191.1⟩ : S72)])) else (none))) = some (r1, r2, r3) := H
     have A20 := aM A200
     clear A200
     obtain ⟨y188, hy188⟩ : ∃ y_ : List Int, y_ = (([0, 0, 0, t185] : List Int)) := ⟨_, rfl⟩
     replace H : ((spec_l1Int.f s0_0 t186 t187 y188).bind fun bt191 => (if x176002_2.length < 5864062014805 then (spec_l5Draw.l1 k2 x4_1 (wrap64 (x6_2 + 1)) s0_0 bt191.2.1 bt191.2.2 x172000_1 (wrap64 (x4_1 * 10)) (wrap64 (20 - x4_1)) (x176002_2 ++ [(⟨x6_2, t182, bt191.1⟩ : S72)])) else (none))) = some (r1, r2, r3) := by first | (rw [hy188]; with_reducible exact H) | (have H2_ := (Option.bind_some _ _).symm.trans H; rw [hy188]; with_reducible exact H2_) | (have H2_ := (Option.bind_some _ _).symm.trans H; with_reducible exact H2_) | with_reducible exact H | (rw [hy188]; exact H) | exact H
     have Ny188 := aM hy188
     clear hy188
     replace H := Option.bind_eq_some_iff.mp H
     obtain ⟨⟨t191, t192, t193⟩, A210, H⟩ := H
     replace H : (if x176002_2.length < 5864062014805 then (spec_l5Draw.l1 k2 x4_1 (wrap64 (x6_2 + 1)) s0_0 t192 t193 x172000_1 (wrap64 (x4_1 * 10)) (wrap64 (20 - x4_1)) (x176002_2 ++ [(⟨x6_2, t182, t191⟩ : S72)])) else (none)) = some (r1, r2, r3) := H
     have A21 := aM A210
     clear A210
     by_cases c22 : x176002_2.length < 5864062014805
     {
     rw [if_pos c22] at H
     have LMc22 := aM c22
     clear c22
     obtain ⟨y194, hy194⟩ : ∃ y_ : List (S72), y_ = (x176002_2 ++ [(⟨x6_2, t182, t191⟩ : S72)]) := ⟨_, rfl⟩
     replace H : (spec_l5Draw.l1 k2 x4_1 (wrap64 (x6_2 + 1)) s0_0 t192 t193 x172000_1 (wrap64 (x4_1 * 10)) (wrap64 (20 - x4_1)) y194) = some (r1, r2, r3) := by first | (rw [hy194]; with_reducible exact H) | (have H2_ := (Option.bind_some _ _).symm.trans H; rw [hy194]; with_reducible exact H2_) | (have H2_ := (Option.bind_some _ _).symm.trans H; with_reducible exact H2_) | with_reducible exact H | (rw [hy194]; exact H) | exact H
     have Ny194 := aM hy194
     clear hy194
     have H' := aM H
     clear H
     try go_wp2_with (first | ((with_reducible refine gate_dst (N := 25) rfl ?_); refine Kd.R_lit (Kd.int .i64) _ 3 ?hg (N := 25) ?hd (xs := ([0, 0, 1, 3, 5, 12] : List Int)) (inner := [.int .i64 0, .int .i64 0, .int .i64 1, .int .i64 3, .int .i64 5, .int .i64 12]) (ok := fun _ => True) (okp := fun _ => True) ?hr ?hp (fun _ hk => hk) trivial (Below.refl _ _) (Nat.le_refl _) (by simp) ?_; (case hd => rfl); (case hg => rfl); (case hr => exact qz27); (case hp => exact qz24); intro v180 w23 ho24 hb hg_ hnew_; clear hg_ hnew_; (first | rw [← Ny179.out] at ho24 | (simp only [Int.reduceToNat] at ho24; rw [← Ny179.out] at ho24)); replace HO_172000 := aM (Kd.S_below (rs_ HO_172000.out) hb); replace HO_176002 := aM (Kd.R_below (rr_ HO_176002.out) hb); have HO181 := aM (Kd.R_lower ho24 (keep_size (w := w) (g := g) (row := none) qz2)); replace BK170 := bB_ BK170 hb; replace BK171 := bB_ BK171 hb; replace BK175 := bB_ BK175 hb; replace HK := aM (KeepBut.trans qz2 (KeepBut.of_below hb g none) (.inl rfl)); replace HB := bS_ hb; replace HI0 := aM (IsS122.below qz3 hb); clear hb ho24; obtain ⟨Ao25, co25, eo25⟩ := Kd.R_slice HO181.out; subst eo25) | ((with_reducible refine gate_callee (f := 92) rfl ?_); refine goesL_ (some 26) rfl rfl Try.func92 (by kernel_rfl) rfl #[.pointer (some ⟨g, 0, none⟩), .slice Ao25 y179.length co25] rfl qz4 ?_; (with_reducible refine (spec_l1Int.calls g s0_0 x1001_2 x1002_2 _ _ y179 t182 t183 t184 w0 _ ?side1 ?side2 ?side3 ?side4 ?side5 A18.out).mono ?_); (case side1 => exact qz3); (case side2 => exact qz1); (case side3 => repeat (first | exact (Kd.R_reads' HO181.out).2.2 | (with_reducible refine Kd.C_alloc ?_ _) | (with_reducible refine Kd.C_drewN ?_ _) | (with_reducible refine Kd.C_drew ?_))); (case side4 => exact (Kd.R_reads' HO181.out).2.1); (case side5 => exact far_slice (IsS122.own_ne HI0.out HO181.out (by decide))); rintro e w26 ⟨rfl, hi, hb, hk⟩; refine ⟨_, rfl, ?_⟩; replace HO_172000 := aM (Kd.S_mono (Kd.S_keep (IsS122.apartS (show IsS122 w0 _ g s0_0 x1001_2 x1002_2 from qz3) (rs_ HO_172000.out) (by decide)) hk (fun _ h => h.2)) (fun _ h => h.1)); replace HO_176002 := aM (Kd.R_mono (Kd.R_keep (IsS122.apart (show IsS122 w0 _ g s0_0 x1001_2 x1002_2 from qz3) (rr_ HO_176002.out) (by decide)) hk (fun _ h => h.2)) (fun _ h => h.1)); replace BK170 := aM (KeepBut.blk hk (bk_ BK170.out) NB170_0.out (by simp)); replace BK171 := aM (KeepBut.blk hk (bk_ BK171.out) NB171_0.out (by simp)); replace BK175 := aM (KeepBut.blk hk (bk_ BK175.out) NB175_0.out (by simp)); replace HO181 := aM (Kd.R_mono (Kd.R_keep (IsS122.apart (show IsS122 w0 _ g s0_0 x1001_2 x1002_2 from qz3) (rr_ HO181.out) (by decide)) hk (fun _ h => h.2)) (fun _ h => h.1)); replace HK := aM (KeepBut.trans qz2 hk (.inl rfl)); replace HB := aM (hb); replace HI0 := aM (hi); (try clear hb); (try clear hb2); (try clear hk); (try clear hi)))
     replace HO_172000 := aM (Kd.S_drew HO_172000.out)
     replace HO_176002 := aM (Kd.R_drew HO_176002.out)
     replace HO181 := aM (Kd.R_drew HO181.out)
     replace BK170 := aM (blk_drew BK170.out)
     replace BK171 := aM (blk_drew BK171.out)
     replace BK175 := aM (blk_drew BK175.out)
     replace HI0 := aM (IsS122.drew HI0.out)
     replace HK := aM (keep_drew HK.out)
     replace HB := aM (below_drew1 HB.out)
     refine start_ (n := 16) (S := fun w' => w'.cell? ⟨gb175, 0, none⟩ = some (.int .i64 (wrap64 (x4_1 * 10))) ∧ w'.cell? ⟨gb175, 1, none⟩ = some (.int .i64 (wrap64 (20 - x4_1))) ∧ w'.cell? ⟨gb175, 2, none⟩ = some (u176002)) (ds := [15]) #[false, false, false, false, false, false, false, false, false, false, false, false, false, false, false, false] (by kernel_rfl) rfl rfl ⟨(blk_cell BK175.out 0).trans rfl, (blk_cell BK175.out 1).trans rfl, (blk_cell BK175.out 2).trans rfl⟩ (fun hHeld => ?_); refine with_tabW spec_l5Draw.tab12 spec_l5Draw.bits12 (fun HT_ HW_ => ?_)
     generalize w26.drew = w27 at HO_172000 HO_176002 HO181 BK170 BK171 BK175 HI0 HK HB hHeld ⊢
     refine pI_ 0 29 (bqz 16 1) ?_
     refine jI_ 2 31 ?_
     refine jI_ 3 32 ?_
     refine jI_ 4 33 ?_
     refine jI_ 5 34 ?_
     refine jI_ 6 35 ?_
     refine jI_ 7 36 ?_
     refine sI3_ 1 30 ?_
     refine one_ (i := 8) (N := some 37) (bqz 16 511) rfl rfl qzc (by decide) (fun K hK => ?_)
     refine goes_ Try.func105 (by kernel_rfl) rfl #[.pointer (some ⟨g, 0, none⟩), .int .i64 (wrap64 (t182 + 1))] (by rfl) rfl rfl qz4 ?_
     with_reducible refine (spec_l1Below.calls g s0_0 t183 t184 (wrap64 (t182 + 1)) t185 t186 t187 w0 _ ?side1 ?side2 A20.out).mono ?_
     (case side1 => exact qz3)
     (case side2 => exact qz1)
     rintro e w28 ⟨rfl, hi, hb, hk⟩
     refine ⟨_, rfl, ?_⟩
     replace HO_172000 := aM (Kd.S_mono (Kd.S_keep (IsS122.apartS (show IsS122 w0 _ g s0_0 t183 t184 from qz3) (rs_ HO_172000.out) (by decide)) hk (fun _ h => h.2)) (fun _ h => h.1))
     replace HO_176002 := aM (Kd.R_mono (Kd.R_keep (IsS122.apart (show IsS122 w0 _ g s0_0 t183 t184 from qz3) (rr_ HO_176002.out) (by decide)) hk (fun _ h => h.2)) (fun _ h => h.1))
     replace BK170 := aM (KeepBut.blk hk (bk_ BK170.out) NB170_0.out (by simp))
     replace BK171 := aM (KeepBut.blk hk (bk_ BK171.out) NB171_0.out (by simp))
     replace BK175 := aM (KeepBut.blk hk (bk_ BK175.out) NB175_0.out (by simp))
     replace HO181 := aM (Kd.R_mono (Kd.R_keep (IsS122.apart (show IsS122 w0 _ g s0_0 t183 t184 from qz3) (rr_ HO181.out) (by decide)) hk (fun _ h => h.2)) (fun _ h => h.1))
     replace HK := aM (KeepBut.trans qz2 hk (.inl rfl))
     replace HB := aM (hb)
     replace HI0 := aM (hi)
     (try clear hb)
     (try clear hb2)
     (try clear hk)
     (try clear hi)
     refine hK.out _ _ ⟨(blk_cell BK175.out 0).trans rfl, (blk_cell BK175.out 1).trans rfl, (blk_cell BK175.out 2).trans rfl⟩ (fun hHeld => ?_)
     clear hK K
     refine nm_ 37 ?_
     refine one_ (i := 9) (N := some 38) (bqz 16 1023) rfl rfl qzc (by decide) (fun K hK => ?_)
     refine Kd.R_lit_step (Kd.int .i64) _ 3 ?hg (N := 38) ?hd (xs := ([0, 0, 0, t185] : List Int)) (inner := [.int .i64 0, .int .i64 0, .int .i64 0, .int .i64 t185]) (ok := fun _ => True) (okp := fun _ => True) ?hr ?hp (fun _ hk => hk) trivial (Below.refl _ _) (Nat.le_refl _) (by simp) ?_; (case hd => rfl); (case hg => rfl); (case hr => exact qz27); (case hp => exact (Reps.one (show Kd.M (Kd.int .i64) _ _ _ 0 [.int .i64 0] from rfl) (Reps.one (show Kd.M (Kd.int .i64) _ _ _ 0 [.int .i64 0] from rfl) (Reps.one (show Kd.M (Kd.int .i64) _ _ _ 0 [.int .i64 0] from rfl) (Reps.one (show Kd.M (Kd.int .i64) _ _ _ t185 [.int .i64 t185] from rfl) (Reps.none _ _))))))
     intro v189 w29 ho30 hb hg_ hnew_
     clear hg_ hnew_
     (first | rw [← Ny188.out] at ho30 | (simp only [Int.reduceToNat] at ho30; rw [← Ny188.out] at ho30))
     replace HO_172000 := aM (Kd.S_below (rs_ HO_172000.out) hb)
     replace HO_176002 := aM (Kd.R_below (rr_ HO_176002.out) hb)
     have HO190 := aM (Kd.R_lower (Kd.R_new' ho30 (Kd.R_lt (rr_ HO181.out))) (keep_size (w := w) (g := g) (row := none) qz2))
     replace HO181 := aM (Kd.R_elder' (rr_ HO181.out) (Kd.R_base ho30) hb)
     replace BK170 := bB_ BK170 hb
     replace BK171 := bB_ BK171 hb
     replace BK175 := bB_ BK175 hb
     replace HK := aM (KeepBut.trans qz2 (KeepBut.of_below hb g none) (.inl rfl))
     replace HB := bS_ hb
     replace HI0 := aM (IsS122.below qz3 hb)
     clear hb ho30
     obtain ⟨Ao31, co31, eo31⟩ := Kd.R_slice HO190.out
     (first | subst eo31 | (injection eo31 with f1_ f2_ f3_; have f4_ := f1_.symm; have f5_ := f3_.symm; clear f1_ f2_ f3_; subst f4_; subst f5_))
     refine hK.out _ _ ⟨(blk_cell BK175.out 0).trans rfl, (blk_cell BK175.out 1).trans rfl, (blk_cell BK175.out 2).trans rfl⟩ (fun hHeld => ?_)
     clear hK K
     refine nm_ 38 ?_
     refine one_ (i := 10) (N := some 39) (bqz 16 2047) rfl rfl qzc (by decide) (fun K hK => ?_)
     refine goes_ Try.func92 (by kernel_rfl) rfl #[.pointer (some ⟨g, 0, none⟩), .slice Ao31 y188.length co31] (by rfl) rfl rfl qz4 ?_
     with_reducible refine (spec_l1Int.calls g s0_0 t186 t187 _ _ y188 t191 t192 t193 w0 _ ?side1 ?side2 ?side3 ?side4 ?side5 A21.out).mono ?_
     (case side1 => exact qz3)
     (case side2 => exact qz1)
     (case side3 => repeat (first | exact (Kd.R_reads' HO190.out).2.2 | (with_reducible refine Kd.C_alloc ?_ _) | (with_reducible refine Kd.C_drewN ?_ _) | (with_reducible refine Kd.C_drew ?_)))
     (case side4 => exact (Kd.R_reads' HO190.out).2.1)
     (case side5 => exact far_slice (IsS122.own_ne HI0.out HO190.out (by decide)))
     rintro e w32 ⟨rfl, hi, hb, hk⟩
     refine ⟨_, rfl, ?_⟩
     replace HO_172000 := aM (Kd.S_mono (Kd.S_keep (IsS122.apartS (show IsS122 w0 _ g s0_0 t186 t187 from qz3) (rs_ HO_172000.out) (by decide)) hk (fun _ h => h.2)) (fun _ h => h.1))
     replace HO_176002 := aM (Kd.R_mono (Kd.R_keep (IsS122.apart (show IsS122 w0 _ g s0_0 t186 t187 from qz3) (rr_ HO_176002.out) (by decide)) hk (fun _ h => h.2)) (fun _ h => h.1))
     replace BK170 := aM (KeepBut.blk hk (bk_ BK170.out) NB170_0.out (by simp))
     replace BK171 := aM (KeepBut.blk hk (bk_ BK171.out) NB171_0.out (by simp))
     replace BK175 := aM (KeepBut.blk hk (bk_ BK175.out) NB175_0.out (by simp))
     replace HO181 := aM (Kd.R_mono (Kd.R_keep (IsS122.apart (show IsS122 w0 _ g s0_0 t186 t187 from qz3) (rr_ HO181.out) (by decide)) hk (fun _ h => h.2)) (fun _ h => h.1))
     replace HO190 := aM (Kd.R_mono (Kd.R_keep (IsS122.apart (show IsS122 w0 _ g s0_0 t186 t187 from qz3) (rr_ HO190.out) (by decide)) hk (fun _ h => h.2)) (fun _ h => h.1))
     replace HK := aM (KeepBut.trans qz2 hk (.inl rfl))
     replace HB := aM (hb)
     replace HI0 := aM (hi)
     (try clear hb)
     (try clear hb2)
     (try clear hk)
     (try clear hi)
     refine hK.out _ _ ⟨(blk_cell BK175.out 0).trans rfl, (blk_cell BK175.out 1).trans rfl, (blk_cell BK175.out 2).trans rfl⟩ (fun hHeld => ?_)
     clear hK K
     refine nm_ 39 ?_
     refine pI_ 11 40 (bqz 16 4095) ?_
     refine one_ (i := 12) (N := some 41) (bqz 16 8191) rfl rfl qzc (by decide) (fun K hK => ?_)
     refine value_ (w1 := ?_) (v := ?_) (by rfl) rfl ?_ ?_
     rotate_left 2
     {
     go_simp
     constructor
     {
     rfl
     }
     {
     rfl
     }
     }
     refine hK.out _ _ ⟨(blk_cell (blk_alloc BK175.out _) 0).trans rfl, (blk_cell (blk_alloc BK175.out _) 1).trans rfl, (blk_cell (blk_alloc BK175.out _) 2).trans rfl⟩ (fun hHeld => ?_)
     clear hK K
     refine nm_ 41 ?_
     refine one_ (i := 13) (N := some 42) (bqz 16 16383) rfl rfl qzc (by decide) (fun K hK => ?_)
     refine Kd.R_append_step k72 w.heap.size (by rfl) (.tmp 30) (.tmp 41) 77 72 (.agg #[(.int .i64 0), (.int .i64 0), (.int .i64 0)]) 24 rfl Try.underlying77 info72 rfl (by decide) (by omega) u176002 x176002_2 (⟨x6_2, t182, t191⟩ : S72) [.int .i64 x6_2, .int .i64 t182, .int .i64 t191] (fun _ => True) (fun _ => False) rfl rfl ?aP (fun _ hk => hk.elim) ?aF ?aO (Below.refl _ _) ?aS ?aL ?_
     (case aP => exact k72_mkM _ _ _ (⟨x6_2, t182, t191⟩ : S72))
     (case aF => exact (fun _ _ => trivial))
     (case aO => exact (rr_ HO_176002.out))
     (case aS => exact (keep_size (w := w) (g := g) (row := none) qz2))
     (case aL => have := LMc22.out; omega)
     intro v195 w33 ho hb hg hat
     rw [← Ny194.out] at ho
     replace HO_172000 := aM (Kd.S_after (ok := (fun k_ => k_ ≠ gb175)) (by (with_reducible repeat (first | apply Kd.S_alloc | apply Kd.S_drewN | apply Kd.S_drew)); exact Kd.S_mono HO_172000.out (fun _ hk => ⟨hk.2, hk.1⟩)) hg hat)
     replace BK170 := aM (blk_grown (bk_ BK170.out) hg (Kd.R_ne HO_176002.out BK170.out (by decide)))
     replace BK171 := aM (blk_grown (bk_ BK171.out) hg (Kd.R_ne HO_176002.out BK171.out (by decide)))
     replace BK175 := aM (blk_grown (bk_ BK175.out) hg (Kd.R_ne HO_176002.out BK175.out (by decide)))
     replace HO181 := aM (Kd.R_over' (rr_ HO181.out) (Kd.R_typed (rr_ HO_176002.out)) (by decide) hg)
     replace HO190 := aM (Kd.R_over' (rr_ HO190.out) (Kd.R_typed (rr_ HO_176002.out)) (by decide) hg)
     replace HB := aM (below_weaken qz1 HL.out hb)
     replace HI0 := aM (IsS122.grown qz3 hg (IsS122.own_ne HI0.out HO_176002.out (by decide)))
     replace HK := aM (KeepBut.trans qz2 (KeepBut.of_grown hg g) (Kd.R_base2 HO_176002.out))
     have HO196 := aM (ho)
     clear HO_176002 ho hb hg hat
     obtain ⟨Ao34, co34, eo34⟩ := Kd.R_slice HO196.out
     (first | subst eo34 | (injection eo34 with f1_ f2_ f3_; have f4_ := f1_.symm; have f5_ := f3_.symm; clear f1_ f2_ f3_; subst f4_; subst f5_))
     refine hK.out _ _ ⟨(blk_cell BK175.out 0).trans rfl, (blk_cell BK175.out 1).trans rfl, (blk_cell BK175.out 2).trans rfl⟩ (fun hHeld => ?_)
     clear hK K
     refine nm_ 42 ?_
     refine pI_ 14 43 (bqz 16 32767) ?_
     refine last_ (i := 15) (N := none) (bqz 16 65535) rfl rfl qzc (by decide) (fun K hK => ?_)
     have hs35 : w33.cell? ⟨gb175, 2, none⟩ = some (u176002) := (blk_cell BK175.out 2).trans rfl
     have hfs35 := blk_frozen BK175.out 2
     have hns35_0 := NB170_175.out
     have hns35_1 := NB171_175.out
     have hms35_0 := NB175_170.out
     have hms35_1 := NB175_171.out
     refine sk_ ?_
     refine hK.out _ _ ?_
     clear hK K
     refine done_ (done_of HT_.out (by kernel_rfl)) ?_
     try go_wp2
     go_roundg k2
     case measure => have := HK1.out; have := HK2.out; omega
     case rel => exact ⟨(wrap64 (x6_2 + 1)), (t192), (t193), (y194), (.slice Ao34 y194.length co34), qz5, H', ⟨by have := HK1.out; have := HK2.out; omega⟩, ⟨by (with_reducible repeat (first | apply Kd.S_alloc | apply Kd.S_drewN | apply Kd.S_drew)); exact Kd.S_mono (Kd.S_far (p := ⟨gb175, 2, none⟩) (Kd.S_mono HO_172000.out (fun k_ hk => (⟨hk, hk.1⟩ : _ ∧ k_ ≠ gb175))) (fun _ hk => hk.2) (.slice Ao34 y194.length co34)) (fun _ hk => ⟨hk.1.2, hk.1.1⟩)⟩, ⟨by (with_reducible repeat (first | apply Kd.R_alloc | apply Kd.R_drewN | apply Kd.R_drew)); exact Kd.R_mono (Kd.R_far (p := ⟨gb175, 2, none⟩) (Kd.R_types HO196.out BK175.out (by decide)) (fun _ hk => hk.2) (.slice Ao34 y194.length co34)) (fun _ hk => trivial)⟩, ⟨by (with_reducible repeat (first | refine blk_drewN ?_ _ | refine blk_drew ?_ | refine blk_alloc ?_ _)); refine blk_far ?_ NB170_175.out _; exact bk_ BK170.out⟩, ⟨by (with_reducible repeat (first | refine blk_drewN ?_ _ | refine blk_drew ?_ | refine blk_alloc ?_ _)); refine blk_far ?_ NB171_175.out _; exact bk_ BK171.out⟩, ⟨by (with_reducible repeat (first | refine blk_drewN ?_ _ | refine blk_drew ?_ | refine blk_alloc ?_ _)); refine blk_put (cs := #[.int .i64 (wrap64 (x4_1 * 10)), .int .i64 (wrap64 (20 - x4_1)), u176002]) ?_ 2 _ rfl; exact bk_ BK175.out⟩, ⟨qz3⟩, ⟨qz2⟩, ⟨qz1⟩⟩
     }
     {
     exact an_ c22 H
     }
     }
     {
     rw [if_neg c19] at H
     have c19b0 := decide_eq_false c19
     clear c19
     have H' := aM H
     clear H
     go_wp2_with (first | ((with_reducible refine gate_dst (N := 25) rfl ?_); refine Kd.R_lit (Kd.int .i64) _ 3 ?hg (N := 25) ?hd (xs := ([0, 0, 1, 3, 5, 12] : List Int)) (inner := [.int .i64 0, .int .i64 0, .int .i64 1, .int .i64 3, .int .i64 5, .int .i64 12]) (ok := fun _ => True) (okp := fun _ => True) ?hr ?hp (fun _ hk => hk) trivial (Below.refl _ _) (Nat.le_refl _) (by simp) ?_; (case hd => rfl); (case hg => rfl); (case hr => exact qz27); (case hp => exact qz24); intro v180 w36 ho37 hb hg_ hnew_; clear hg_ hnew_; (first | rw [← Ny179.out] at ho37 | (simp only [Int.reduceToNat] at ho37; rw [← Ny179.out] at ho37)); replace HO_172000 := aM (Kd.S_below (rs_ HO_172000.out) hb); replace HO_176002 := aM (Kd.R_below (rr_ HO_176002.out) hb); have HO181 := aM (Kd.R_lower ho37 (keep_size (w := w) (g := g) (row := none) qz2)); replace BK170 := bB_ BK170 hb; replace BK171 := bB_ BK171 hb; replace BK175 := bB_ BK175 hb; replace HK := aM (KeepBut.trans qz2 (KeepBut.of_below hb g none) (.inl rfl)); replace HB := bS_ hb; replace HI0 := aM (IsS122.below qz3 hb); clear hb ho37; obtain ⟨Ao38, co38, eo38⟩ := Kd.R_slice HO181.out; subst eo38) | ((with_reducible refine gate_callee (f := 92) rfl ?_); refine goesL_ (some 26) rfl rfl Try.func92 (by kernel_rfl) rfl #[.pointer (some ⟨g, 0, none⟩), .slice Ao38 y179.length co38] rfl qz4 ?_; (with_reducible refine (spec_l1Int.calls g s0_0 x1001_2 x1002_2 _ _ y179 t182 t183 t184 w0 _ ?side1 ?side2 ?side3 ?side4 ?side5 A18.out).mono ?_); (case side1 => exact qz3); (case side2 => exact qz1); (case side3 => repeat (first | exact (Kd.R_reads' HO181.out).2.2 | (with_reducible refine Kd.C_alloc ?_ _) | (with_reducible refine Kd.C_drewN ?_ _) | (with_reducible refine Kd.C_drew ?_))); (case side4 => exact (Kd.R_reads' HO181.out).2.1); (case side5 => exact far_slice (IsS122.own_ne HI0.out HO181.out (by decide))); rintro e w39 ⟨rfl, hi, hb, hk⟩; refine ⟨_, rfl, ?_⟩; replace HO_172000 := aM (Kd.S_mono (Kd.S_keep (IsS122.apartS (show IsS122 w0 _ g s0_0 x1001_2 x1002_2 from qz3) (rs_ HO_172000.out) (by decide)) hk (fun _ h => h.2)) (fun _ h => h.1)); replace HO_176002 := aM (Kd.R_mono (Kd.R_keep (IsS122.apart (show IsS122 w0 _ g s0_0 x1001_2 x1002_2 from qz3) (rr_ HO_176002.out) (by decide)) hk (fun _ h => h.2)) (fun _ h => h.1)); replace BK170 := aM (KeepBut.blk hk (bk_ BK170.out) NB170_0.out (by simp)); replace BK171 := aM (KeepBut.blk hk (bk_ BK171.out) NB171_0.out (by simp)); replace BK175 := aM (KeepBut.blk hk (bk_ BK175.out) NB175_0.out (by simp)); replace HO181 := aM (Kd.R_mono (Kd.R_keep (IsS122.apart (show IsS122 w0 _ g s0_0 x1001_2 x1002_2 from qz3) (rr_ HO181.out) (by decide)) hk (fun _ h => h.2)) (fun _ h => h.1)); replace HK := aM (KeepBut.trans qz2 hk (.inl rfl)); replace HB := aM (hb); replace HI0 := aM (hi); (try clear hb); (try clear hb2); (try clear hk); (try clear hi)))
     go_roundg k2
     case measure => have := HK1.out; have := HK2.out; omega
     case rel => exact ⟨(wrap64 (x6_2 + 1)), (t183), (t184), (x176002_2), (u176002), qz5, H', ⟨by have := HK1.out; have := HK2.out; omega⟩, ⟨rm_ HO_172000.out⟩, ⟨rm_ HO_176002.out⟩, ⟨bk_ BK170.out⟩, ⟨bk_ BK171.out⟩, ⟨bk_ BK175.out⟩, ⟨qz3⟩, ⟨qz2⟩, ⟨qz1⟩⟩
     }
     }
     {
     rw [if_neg c17] at H
     have c17b0 := decide_eq_false c17
     clear c17
     by_cases c40 : x172000_1.length < 3518437208883
     {
     rw [if_pos c40] at H
     have LMc40 := aM c40
     clear c40
     obtain ⟨y176, hy176⟩ : ∃ y_ : List (S79), y_ = (x172000_1 ++ [(⟨(wrap64 (x4_1 * 10)), (wrap64 (20 - x4_1)), x176002_2⟩ : S79)]) := ⟨_, rfl⟩
     replace H : (spec_l5Draw.l0 k2 (wrap64 (x4_1 + 1)) s0_0 x1001_2 x1002_2 y176) = some (r1, r2, r3) := by first | (rw [hy176]; with_reducible exact H) | (have H2_ := (Option.bind_some _ _).symm.trans H; rw [hy176]; with_reducible exact H2_) | (have H2_ := (Option.bind_some _ _).symm.trans H; with_reducible exact H2_) | with_reducible exact H | (rw [hy176]; exact H) | exact H
     have Ny176 := aM hy176
     clear hy176
     have H' := aM H
     clear H
     have hnb41 := NB171_170.out
     have hnc41 := NB170_171.out
     have hnb42 := NB171_175.out
     have hnc42 := NB175_171.out
     have hnb43 := NB171_0.out
     have hnc43 := NB0_171.out
     obtain ⟨hcz44_0, hfz44_0⟩ := bf_ BK171.out
     have hnb45 := NB175_170.out
     have hnc45 := NB170_175.out
     have hnb46 := NB175_0.out
     have hnc46 := NB0_175.out
     obtain ⟨hcz47_0, hcz47_1, hcz47_2, hfz47_0, hfz47_1, hfz47_2⟩ := b6_ BK175.out
     obtain ⟨Ao49, co49, eo49⟩ := Kd.R_slice HO_176002.out
     subst eo49
     go_wp2_with (first | ((with_reducible refine gate_builtin (b := .append) (xs := #[.tmp 45, .tmp 47]) rfl ?_); at_builtin; refine Kd.S_append k79 w.heap.size rfl (.tmp 45) (.tmp 47) 24 79 (.agg #[(.int .i64 0), (.int .i64 0), (.slice none 0 0)]) 40 rfl Try.underlying24 info79 rfl (by decide) (by omega) u172000 x172000_1 (⟨(wrap64 (x4_1 * 10)), (wrap64 (20 - x4_1)), x176002_2⟩ : S79) [.int .i64 (wrap64 (x4_1 * 10)), .int .i64 (wrap64 (20 - x4_1)), .slice Ao49 x176002_2.length co49] (fun k_ => k_ ≠ gb175) (fun k_ => some k_ = (.slice Ao49 x176002_2.length co49 : Value).ownBlock) rfl rfl ?aP (fun k_ hk_ => ((Kd.R_mono (ok' := fun k_ => ((fun k_ => k_ ≠ gb175)) k_ ∧ some k_ ≠ (u172000 : Value).ownBlock) (Kd.R_types (Kd.R_apart' (HO_176002.out) (Kd.S_typed HO_172000.out) (by decide)) BK175.out (by decide)) (fun k_ hk => ⟨hk.2, hk.1.2⟩))).1 k_ hk_.symm) ?aF ?aO (Below.refl _ _) ?aS ?aL ?_; (case aP => exact k79_mkM _ _ _ (⟨(wrap64 (x4_1 * 10)), (wrap64 (20 - x4_1)), x176002_2⟩ : S79) (Kd.R_mono (Kd.R_tight rfl (Kd.R_mono (ok' := fun k_ => ((fun k_ => k_ ≠ gb175)) k_ ∧ some k_ ≠ (u172000 : Value).ownBlock) (Kd.R_types (Kd.R_apart' (HO_176002.out) (Kd.S_typed HO_172000.out) (by decide)) BK175.out (by decide)) (fun k_ hk => ⟨hk.2, hk.1.2⟩))) (fun _ h_ => h_))); (case aF => exact (fun k_ hk => Kd.freshB (bk_ BK175.out) k_ hk)); (case aO => exact (by (with_reducible repeat (first | apply Kd.S_alloc | apply Kd.S_drewN | apply Kd.S_drew)); exact Kd.S_mono HO_172000.out (fun k_ hk => ⟨hk.2, fun e_ => hk.1 e_⟩))); (case aS => exact (keep_size (w := w) (g := g) (row := none) qz2)); (case aL => have := LMc40.out; omega); intro v177 w48 ho hb hg hat; rw [← Ny176.out] at ho; replace BK170 := aM (blk_grown (bk_ BK170.out) hg (Kd.S_ne HO_172000.out BK170.out (by decide))); replace BK171 := aM (blk_grown (bk_ BK171.out) hg (Kd.S_ne HO_172000.out BK171.out (by decide))); replace BK175 := aM (blk_grown (bk_ BK175.out) hg (Kd.S_away HO_172000.out (fun _ hk => hk.2))); replace HB := aM (below_weaken qz1 HL.out hb); replace HI0 := aM (IsS122.grown qz3 hg (IsS122.own_neS HI0.out HO_172000.out (by decide))); replace HK := aM (KeepBut.trans qz2 (KeepBut.of_grown hg g) (Kd.S_base2 HO_172000.out)); have HO178 := aM (ho); clear HO_172000 HO_176002; clear ho hb hg hat; obtain ⟨Ao50, co50, eo50⟩ := Kd.S_slice HO178.out; subst eo50; obtain ⟨hcz51_0, hfz51_0⟩ := bf_ BK171.out))
     go_roundg k2
     case measure => have := HK1.out; have := HK2.out; omega
     case rel => exact ⟨(wrap64 (x4_1 + 1)), (x1001_2), (x1002_2), (y176), (.slice Ao50 y176.length co50), qz5, H', ⟨by have := HK1.out; have := HK2.out; omega⟩, ⟨by (with_reducible repeat (first | apply Kd.S_alloc | apply Kd.S_drewN | apply Kd.S_drew)); exact Kd.S_mono (Kd.S_far (p := ⟨gb171, 0, none⟩) (Kd.S_types HO178.out BK171.out (by decide)) (fun _ hk => hk.2) (.slice Ao50 y176.length co50)) (fun _ hk => trivial)⟩, ⟨by (with_reducible repeat (first | refine blk_drewN ?_ _ | refine blk_drew ?_ | refine blk_alloc ?_ _)); refine blk_far ?_ NB170_171.out _; exact bk_ BK170.out⟩, ⟨by (with_reducible repeat (first | refine blk_drewN ?_ _ | refine blk_drew ?_ | refine blk_alloc ?_ _)); refine blk_put (cs := #[u172000]) ?_ 0 _ rfl; exact bk_ BK171.out⟩, ⟨qz3⟩, ⟨qz2⟩, ⟨qz1⟩⟩
     }
     {
     exact an_ c40 H
     }
     }
   }
   }
   {
   rw [if_neg c7] at H
   have c7b0 := decide_eq_false c7
   clear c7
   simp only [Option.some.injEq, Prod.mk.injEq] at H
   obtain ⟨rfl, rfl, rfl⟩ := H
   have hnb52 := NB171_170.out
   have hnc52 := NB170_171.out
   have hnb53 := NB171_0.out
   have hnc53 := NB0_171.out
   obtain ⟨hcz54_0, hfz54_0⟩ := bf_ BK171.out
   obtain ⟨Ao55, co55, eo55⟩ := Kd.S_slice HO_172000.out
   subst eo55
   have hnb56 := NB170_0.out
   have hnc56 := NB0_170.out
   obtain ⟨hcz57_0, hfz57_0⟩ := bf_ BK170.out
   go_wp2
   refine bodyPost_ret (results_cell_row rfl _ _ gb170 26 #[.slice Ao55 x172000_1.length co55] (0, 0) _ rfl (by (with_reducible repeat (first | refine blk_drewN ?_ _ | refine blk_drew ?_ | refine blk_alloc ?_ _)); refine blk_put (cs := #[.slice none 0 0]) ?_ 0 _ rfl; exact bk_ BK170.out) Try.underlying26 rfl (by kernel_rfl)) rfl ?_
   exact ⟨_, qzw, by (with_reducible repeat (first | apply Kd.S_alloc | apply Kd.S_drewN | apply Kd.S_drew)); exact Kd.S_mono (Kd.S_far (p := ⟨gb170, 0, none⟩) (Kd.S_types HO_172000.out BK170.out (by decide)) (fun _ hk => hk.2) (.slice Ao55 x172000_1.length co55)) (fun _ hk => trivial), qz3, qz1, qz2⟩

   }
end Go.Proofs.Yteajnkondkfmgaa.PFnPicks
