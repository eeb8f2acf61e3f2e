-- Made by a program of this session out of the translation. Lean checks it.
import Derived.Test.YtankmdbbgepmbaaPFnLivelyx2
import Derived.Test.YtankmdbbgepmbaaPFnLivelyx6
namespace Go.Proofs.Ytankmdbbgepmbaa.PFnLively
open Go.RowKit Go.Proofs.YtankmdbbgepmbaaW.PrintWords Go.Proofs.YtankmdbbgepmbaaW.PrintLast Go.Proofs.YtankmdbbgepmbaaW.PrintMore
attribute [local go_sem] max2_int min2_int max_two min_two max_three min_three max_four min_four   -- for this text's walks alone
set_option linter.unusedVariables false
set_option linter.unusedSimpArgs false

/-! ### impl_Step: function 42 -/
def impl_there.l0 : Nat → List S37 → List Int → Int → Int → Int → Option Int
 | 0, _, _, _, _, _ => none
 | k + 1, crew, next, c, b, i => if i < (crew.length : Int) then (if 0 ≤ i then (if (rd_T37 crew i).f1 = c then (if i = b then impl_there.l0 k crew next c b (wrap64 (i + 1)) else (if i < (next.length : Int) then (if rd next i < 0 then some i else impl_there.l0 k crew next c b (wrap64 (i + 1))) else none)) else impl_there.l0 k crew next c b (wrap64 (i + 1))) else none) else some (-1)
def impl_there.f (k : Nat) (crew : List S37) (next : List Int) (c b : Int) : Option Int := impl_there.l0 k crew next c b 0
theorem c5s {w : World} {g : Nat} {t : TypeId} {a0 a1 a2 a3 a4 : Value} (h : w.heap[g]? = some (.cells #[a0, a1, a2, a3, a4] t (0, 0))) : w.cell? ⟨g, 3, none⟩ = some a3 ∧ w.cell? ⟨g, 4, none⟩ = some a4 := ⟨c5_3 h, c5_4 h⟩
set_option maxHeartbeats 16000000 in
set_option maxRecDepth 100000 in
theorem impl_taken.calls (k gm : Nat) (v0 v1 v2 v3 : Value) (A : Option Addr) (cN : Nat) (next : List Int) (c : Int) (r : Bool) (w : World) (hM : w.heap[gm]? = some (.cells #[v0, v1, v2, v3, .slice A next.length cN] 91 (0, 0))) (hN : Kd.C (Kd.int .i64) w A next.length next) (hc : next.length ≤ cN) (h : impl_hasInt.f k next c = some r) :
  Calls Try.prog 104 #[.pointer (some ⟨gm, 0, none⟩), .int .i64 c] w fun e w' => e = .returned (.bool r) ∧ Drawn0 w w' := by
 have hu91 := Try.underlying91
 have z4 := c5_4 hM
 have H := aM h
 have HN := aM hN
 have HC := aM hc
 clear h hN hc hM
 go_enter Try.func104, Try.ntmps104
 go_wp2_with (go_at_call 67; (with_reducible refine (impl_hasInt.calls k _ _ next c r _ HN.out HC.out H.out).mono ?_); rintro e w' ⟨rfl, hw⟩)
 go_ret
 exact ⟨rfl, hw⟩
set_option maxHeartbeats 16000000 in
set_option maxRecDepth 100000 in
theorem impl_there.calls (k gm : Nat) (v0 v1 v2 : Value) (AC : Option Addr) (cC : Nat) (crew : List S37) (A : Option Addr) (cN : Nat) (next : List Int) (c b : Int) (r : Int) (w : World) (hM : w.heap[gm]? = some (.cells #[v0, v1, v2, .slice AC crew.length cC, .slice A next.length cN] 91 (0, 0))) (hR : Kd.C k37 w AC crew.length crew) (hN : Kd.C (Kd.int .i64) w A next.length next) (hl : crew.length ≤ 20) (h : impl_there.f k crew next c b = some r) :
  Calls Try.prog 105 #[.pointer (some ⟨gm, 0, none⟩), .int .i64 c, .int .i64 b] w fun e w' => e = .returned (.int .i64 r) ∧ Below w.heap.size w w' := by
 have hu91 := Try.underlying91
 have hu37 := Try.underlying37
 have hu26 := Try.underlying26
 have z3 := c5_3 hM
 have HM := aM hM
 have HR := aM hR
 have HN := aM hN
 have HL := aM hl
 have H' := aM (show impl_there.l0 k crew next c b 0 = some r from h)
 clear h hR hN hM hl
 go_enter Try.func105, Try.ntmps105
 go_wp2
 clear z3
 go_loopg [14] k (fun kq v14 wl => ∃ i : Int, v14 = .int .i64 i ∧ Aside0 (impl_there.l0 kq crew next c b i = some r) ∧ Aside0 (kq ≤ k) ∧ Aside0 (Below w.heap.size w wl))
 case atStart => exact ⟨0, rfl, H', ⟨Nat.le_refl _⟩, ⟨Below.refl _ _⟩⟩
 case round =>
 clear H'
 obtain ⟨i, rfl, HA, HK, HB⟩ := hrel
 cases gk with
 | zero => exact absurd HA.out (by simp [impl_there.l0])
 | succ k1 =>
 have H := HA.out
 clear HA
 simp only [impl_there.l0] at H
 by_cases c1 : i < (crew.length : Int)
 case neg =>
  rw [if_neg c1] at H
  obtain rfl := Option.some.inj H
  have d1 : decide (i < (crew.length : Int)) = false := decide_eq_false c1
  go_wp2
  go_ret
  exact ⟨rfl, HB.out⟩
 rw [if_pos c1] at H
 have d1 : decide (i < (crew.length : Int)) = true := decide_eq_true c1
 by_cases c2 : 0 ≤ i
 case neg => rw [if_neg c2] at H; cases H
 rw [if_pos c2] at H
 obtain ⟨ad, ea, x0, x1, x2, x3, x4⟩ := at_T37 (Kd.C_below HR.out HB.out) i c2 c1
 subst ea
 have i20 : i < 20 := by have := HL.out; omega
 have ew : wrap64 (i + 1) = i + 1 := by unfold wrap64; omega
 rw [ew] at H
 clear ew
 have HM1 := aM (blk_below HM.out HB.out)
 have z4 := c5_4 HM1.out
 replace H := iS_ H
 rcases H with ⟨c3, H⟩ | ⟨c3, H⟩
 {
 have d3 : ((rd_T37 crew i).f1 == c) = true := by simpa using c3
 clear c3
 replace H := iS_ H
 rcases H with ⟨c4, H⟩ | ⟨c4, H⟩
 {
 have d4 : (i != b) = false := by simpa using c4
 have H' := aM H
 clear H c4
 go_upto_region 4 with ((with_reducible refine gate_dst (N := 8) rfl ?_); refine box_event rfl (N := 8) rfl (cs := #[.int .i64 0, .int .i64 0, .int .i64 0, .bool false, .int .i64 0]) (t := 37) ?hr ?_; (case hr => exact qz7); intro g8 hg w8 hbx hb; have BK8 := aM hbx; have G8 := aM (by rw [hg]; exact below_size HB.out : w.heap.size ≤ g8); have HB8 := aM (below_step HB.out hb); replace HM1 := aM (blk_below HM1.out hb); clear hbx hb hg; have y0 := c5_0 BK8.out; have y1 := c5_1 BK8.out; have y2 := c5_2 BK8.out; have y3 := c5_3 BK8.out; have y4 := c5_4 BK8.out; have yf0 := blk_frozen BK8.out 0; have yf1 := blk_frozen BK8.out 1; have yf2 := blk_frozen BK8.out 2; have yf3 := blk_frozen BK8.out 3; have yf4 := blk_frozen BK8.out 4)
 have BK9 := aM (blk_put5 BK8.out (.int .i64 (rd_T37 crew i).f0) (.int .i64 (rd_T37 crew i).f1) (.int .i64 (rd_T37 crew i).f2) (.bool (rd_T37 crew i).f3) (.int .i64 (rd_T37 crew i).f4))
 have HM2 := aM (blk_far5 HM1.out (show gm ≠ g8 from by have := blk_lt HM.out; have := G8.out; omega) (.int .i64 (rd_T37 crew i).f0) (.int .i64 (rd_T37 crew i).f1) (.int .i64 (rd_T37 crew i).f2) (.bool (rd_T37 crew i).f3) (.int .i64 (rd_T37 crew i).f4))
 have HB2 := aM (below_put5 HB8.out G8.out (.int .i64 (rd_T37 crew i).f0) (.int .i64 (rd_T37 crew i).f1) (.int .i64 (rd_T37 crew i).f2) (.bool (rd_T37 crew i).f3) (.int .i64 (rd_T37 crew i).f4))
 generalize (((((w8.setCell ⟨g8, 0, none⟩ (.int .i64 (rd_T37 crew i).f0)).setCell ⟨g8, 1, none⟩ (.int .i64 (rd_T37 crew i).f1)).setCell ⟨g8, 2, none⟩ (.int .i64 (rd_T37 crew i).f2)).setCell ⟨g8, 3, none⟩ (.bool (rd_T37 crew i).f3)).setCell ⟨g8, 4, none⟩ (.int .i64 (rd_T37 crew i).f4)) = w9 at BK9 HM2 HB2 ⊢
 clear y0 y1 y2 y3 y4 yf0 yf1 yf2 yf3 yf4 z4 x0 x1 x2 x3 x4
 have y1 := c5_1 BK9.out
 have z4 := c5_4 HM2.out
 go_wp2
 go_roundg k1
 case measure => have := HK.out; omega
 case rel => exact ⟨i + 1, rfl, H', ⟨by have := HK.out; omega⟩, HB2⟩
 }
 {
 have d4 : (i != b) = true := by simpa using c4
 clear c4
 by_cases c5 : i < (next.length : Int)
 case neg => rw [if_neg c5] at H; cases H
 rw [if_pos c5] at H
 obtain ⟨an, en, xn⟩ := Kd.at_int HN.out i c2 c5
 subst en
 have XN := aM xn
 clear xn
 replace H := iS_ H
 rcases H with ⟨c6, H⟩ | ⟨c6, H⟩
 {
 obtain rfl := Option.some.inj H
 have d6 : decide (rd next i < 0) = true := decide_eq_true c6
 clear H
 go_upto_region 4 with ((with_reducible refine gate_dst (N := 8) rfl ?_); refine box_event rfl (N := 8) rfl (cs := #[.int .i64 0, .int .i64 0, .int .i64 0, .bool false, .int .i64 0]) (t := 37) ?hr ?_; (case hr => exact qz7); intro g8 hg w8 hbx hb; have BK8 := aM hbx; have G8 := aM (by rw [hg]; exact below_size HB.out : w.heap.size ≤ g8); have HB8 := aM (below_step HB.out hb); replace HM1 := aM (blk_below HM1.out hb); clear hbx hb hg; have y0 := c5_0 BK8.out; have y1 := c5_1 BK8.out; have y2 := c5_2 BK8.out; have y3 := c5_3 BK8.out; have y4 := c5_4 BK8.out; have yf0 := blk_frozen BK8.out 0; have yf1 := blk_frozen BK8.out 1; have yf2 := blk_frozen BK8.out 2; have yf3 := blk_frozen BK8.out 3; have yf4 := blk_frozen BK8.out 4)
 have BK9 := aM (blk_put5 BK8.out (.int .i64 (rd_T37 crew i).f0) (.int .i64 (rd_T37 crew i).f1) (.int .i64 (rd_T37 crew i).f2) (.bool (rd_T37 crew i).f3) (.int .i64 (rd_T37 crew i).f4))
 have HM2 := aM (blk_far5 HM1.out (show gm ≠ g8 from by have := blk_lt HM.out; have := G8.out; omega) (.int .i64 (rd_T37 crew i).f0) (.int .i64 (rd_T37 crew i).f1) (.int .i64 (rd_T37 crew i).f2) (.bool (rd_T37 crew i).f3) (.int .i64 (rd_T37 crew i).f4))
 have HB2 := aM (below_put5 HB8.out G8.out (.int .i64 (rd_T37 crew i).f0) (.int .i64 (rd_T37 crew i).f1) (.int .i64 (rd_T37 crew i).f2) (.bool (rd_T37 crew i).f3) (.int .i64 (rd_T37 crew i).f4))
 generalize (((((w8.setCell ⟨g8, 0, none⟩ (.int .i64 (rd_T37 crew i).f0)).setCell ⟨g8, 1, none⟩ (.int .i64 (rd_T37 crew i).f1)).setCell ⟨g8, 2, none⟩ (.int .i64 (rd_T37 crew i).f2)).setCell ⟨g8, 3, none⟩ (.bool (rd_T37 crew i).f3)).setCell ⟨g8, 4, none⟩ (.int .i64 (rd_T37 crew i).f4)) = w9 at BK9 HM2 HB2 ⊢
 clear y0 y1 y2 y3 y4 yf0 yf1 yf2 yf3 yf4 z4 x0 x1 x2 x3 x4
 have y1 := c5_1 BK9.out
 have z4 := c5_4 HM2.out
 have xn := pw_cell_below HB2.out XN.out
 go_wp2
 go_ret
 exact ⟨rfl, HB2.out⟩
 }
 {
 have d6 : decide (rd next i < 0) = false := decide_eq_false c6
 have H' := aM H
 clear H
 go_upto_region 4 with ((with_reducible refine gate_dst (N := 8) rfl ?_); refine box_event rfl (N := 8) rfl (cs := #[.int .i64 0, .int .i64 0, .int .i64 0, .bool false, .int .i64 0]) (t := 37) ?hr ?_; (case hr => exact qz7); intro g8 hg w8 hbx hb; have BK8 := aM hbx; have G8 := aM (by rw [hg]; exact below_size HB.out : w.heap.size ≤ g8); have HB8 := aM (below_step HB.out hb); replace HM1 := aM (blk_below HM1.out hb); clear hbx hb hg; have y0 := c5_0 BK8.out; have y1 := c5_1 BK8.out; have y2 := c5_2 BK8.out; have y3 := c5_3 BK8.out; have y4 := c5_4 BK8.out; have yf0 := blk_frozen BK8.out 0; have yf1 := blk_frozen BK8.out 1; have yf2 := blk_frozen BK8.out 2; have yf3 := blk_frozen BK8.out 3; have yf4 := blk_frozen BK8.out 4)
 have BK9 := aM (blk_put5 BK8.out (.int .i64 (rd_T37 crew i).f0) (.int .i64 (rd_T37 crew i).f1) (.int .i64 (rd_T37 crew i).f2) (.bool (rd_T37 crew i).f3) (.int .i64 (rd_T37 crew i).f4))
 have HM2 := aM (blk_far5 HM1.out (show gm ≠ g8 from by have := blk_lt HM.out; have := G8.out; omega) (.int .i64 (rd_T37 crew i).f0) (.int .i64 (rd_T37 crew i).f1) (.int .i64 (rd_T37 crew i).f2) (.bool (rd_T37 crew i).f3) (.int .i64 (rd_T37 crew i).f4))
 have HB2 := aM (below_put5 HB8.out G8.out (.int .i64 (rd_T37 crew i).f0) (.int .i64 (rd_T37 crew i).f1) (.int .i64 (rd_T37 crew i).f2) (.bool (rd_T37 crew i).f3) (.int .i64 (rd_T37 crew i).f4))
 generalize (((((w8.setCell ⟨g8, 0, none⟩ (.int .i64 (rd_T37 crew i).f0)).setCell ⟨g8, 1, none⟩ (.int .i64 (rd_T37 crew i).f1)).setCell ⟨g8, 2, none⟩ (.int .i64 (rd_T37 crew i).f2)).setCell ⟨g8, 3, none⟩ (.bool (rd_T37 crew i).f3)).setCell ⟨g8, 4, none⟩ (.int .i64 (rd_T37 crew i).f4)) = w9 at BK9 HM2 HB2 ⊢
 clear y0 y1 y2 y3 y4 yf0 yf1 yf2 yf3 yf4 z4 x0 x1 x2 x3 x4
 have y1 := c5_1 BK9.out
 have z4 := c5_4 HM2.out
 have xn := pw_cell_below HB2.out XN.out
 go_wp2
 go_roundg k1
 case measure => have := HK.out; omega
 case rel => exact ⟨i + 1, rfl, H', ⟨by have := HK.out; omega⟩, HB2⟩
 }
 }
 }
 {
 have d3 : ((rd_T37 crew i).f1 == c) = false := by simpa using c3
 have H' := aM H
 clear H c3
 go_upto_region 4 with ((with_reducible refine gate_dst (N := 8) rfl ?_); refine box_event rfl (N := 8) rfl (cs := #[.int .i64 0, .int .i64 0, .int .i64 0, .bool false, .int .i64 0]) (t := 37) ?hr ?_; (case hr => exact qz7); intro g8 hg w8 hbx hb; have BK8 := aM hbx; have G8 := aM (by rw [hg]; exact below_size HB.out : w.heap.size ≤ g8); have HB8 := aM (below_step HB.out hb); replace HM1 := aM (blk_below HM1.out hb); clear hbx hb hg; have y0 := c5_0 BK8.out; have y1 := c5_1 BK8.out; have y2 := c5_2 BK8.out; have y3 := c5_3 BK8.out; have y4 := c5_4 BK8.out; have yf0 := blk_frozen BK8.out 0; have yf1 := blk_frozen BK8.out 1; have yf2 := blk_frozen BK8.out 2; have yf3 := blk_frozen BK8.out 3; have yf4 := blk_frozen BK8.out 4)
 have BK9 := aM (blk_put5 BK8.out (.int .i64 (rd_T37 crew i).f0) (.int .i64 (rd_T37 crew i).f1) (.int .i64 (rd_T37 crew i).f2) (.bool (rd_T37 crew i).f3) (.int .i64 (rd_T37 crew i).f4))
 have HM2 := aM (blk_far5 HM1.out (show gm ≠ g8 from by have := blk_lt HM.out; have := G8.out; omega) (.int .i64 (rd_T37 crew i).f0) (.int .i64 (rd_T37 crew i).f1) (.int .i64 (rd_T37 crew i).f2) (.bool (rd_T37 crew i).f3) (.int .i64 (rd_T37 crew i).f4))
 have HB2 := aM (below_put5 HB8.out G8.out (.int .i64 (rd_T37 crew i).f0) (.int .i64 (rd_T37 crew i).f1) (.int .i64 (rd_T37 crew i).f2) (.bool (rd_T37 crew i).f3) (.int .i64 (rd_T37 crew i).f4))
 generalize (((((w8.setCell ⟨g8, 0, none⟩ (.int .i64 (rd_T37 crew i).f0)).setCell ⟨g8, 1, none⟩ (.int .i64 (rd_T37 crew i).f1)).setCell ⟨g8, 2, none⟩ (.int .i64 (rd_T37 crew i).f2)).setCell ⟨g8, 3, none⟩ (.bool (rd_T37 crew i).f3)).setCell ⟨g8, 4, none⟩ (.int .i64 (rd_T37 crew i).f4)) = w9 at BK9 HM2 HB2 ⊢
 clear y0 y1 y2 y3 y4 yf0 yf1 yf2 yf3 yf4 z4 x0 x1 x2 x3 x4
 have y1 := c5_1 BK9.out
 have z4 := c5_4 HM2.out
 go_wp2
 go_roundg k1
 case measure => have := HK.out; omega
 case rel => exact ⟨i + 1, rfl, H', ⟨by have := HK.out; omega⟩, HB2⟩
 }
mutual
def impl_choose.f : Nat → Int → Int → List Int → List S37 → List Int → Int → Int → Option (Bool × List Int)
 | 0, _, _, _, _, _, _, _ => none
 | k + 1, W, H, cs, crew, next, i, b => if 0 ≤ i then (if i < (crew.length : Int) then (impl_Choices.f k W H cs (rd_T37 crew i).f0 (rd_T37 crew i).f1 (rd_T37 crew i).f2 (rd_T37 crew i).f3 (rd_T37 crew i).f4).bind fun chs => if chs.length ≤ 1000 then impl_choose.l0 k W H cs crew next i b chs 0 else none else none) else none
def impl_choose.l0 : Nat → Int → Int → List Int → List S37 → List Int → Int → Int → List Int → Int → Option (Bool × List Int)
 | 0, _, _, _, _, _, _, _, _, _ => none
 | k + 1, W, H, cs, crew, next, i, b, chs, j => if j < (chs.length : Int) then (if 0 ≤ j then (impl_hasInt.f k next (rd chs j)).bind fun t => if t = true then impl_choose.l0 k W H cs crew next i b chs (wrap64 (j + 1)) else
   (if 0 ≤ b then (if b < (crew.length : Int) then (if rd chs j = (rd_T37 crew b).f1 then impl_choose.l0 k W H cs crew next i b chs (wrap64 (j + 1)) else impl_choose.j1 k W H cs crew next i b chs j) else none) else impl_choose.j1 k W H cs crew next i b chs j) else none)
  else (if i < (next.length : Int) then some (false, next.set i.toNat (rd_T37 crew i).f1) else none)
def impl_choose.j1 : Nat → Int → Int → List Int → List S37 → List Int → Int → Int → List Int → Int → Option (Bool × List Int)
 | 0, _, _, _, _, _, _, _, _, _ => none
 | k + 1, W, H, cs, crew, next, i, b, chs, j => if i < (next.length : Int) then (impl_there.f k crew (next.set i.toNat (rd chs j)) (rd chs j) i).bind fun o => if o < 0 then some (true, next.set i.toNat (rd chs j)) else (impl_choose.f k W H cs crew (next.set i.toNat (rd chs j)) o i).bind fun q => if q.1 = true then some (true, q.2) else impl_choose.l0 k W H cs crew (q.2.set i.toNat (-1)) i b chs (wrap64 (j + 1)) else none
end
def impl_choose.T1 : Bool × List (List Nat × List Nat) := (true, [([], []), ([0], [0]), ([1], [1]), ([2], [2]), ([], []), ([4], [4]), ([5], [5]), ([6], [6]), ([], []), ([7, 8], [7, 8]), ([9], [9]), ([3, 10], [3, 10]), ([11], [11]), ([], [])])
def impl_choose.B1 : List Nat := [0, 1, 3, 7, 0, 16, 48, 112, 0, 496, 1008, 2047, 4095, 0]
theorem impl_choose.tab1 : rtab .any (opsOf Try.f83 1) = impl_choose.T1 := by kernel_rfl
theorem impl_choose.bits1 : waitsOk impl_choose.T1.2 impl_choose.B1 = true := by kernel_rfl
def impl_choose.T11 : Bool × List (List Nat × List Nat) := (true, [([], []), ([0], [0]), ([1], [1]), ([2], [2]), ([], []), ([], []), ([5], [5]), ([6], [6]), ([7], [7]), ([], []), ([8, 9], [8, 9]), ([10], [10]), ([11], [11]), ([3, 4, 0, 1, 2, 3, 4, 5, 6, 7, 8, 9, 10, 11, 12], [3, 4]), ([13, 12, 0, 1, 2, 3, 4, 5, 6, 7, 8, 9, 10, 11, 12], [12, 13])])
def impl_choose.B11 : List Nat := [0, 1, 3, 7, 0, 0, 32, 96, 224, 0, 992, 2016, 4064, 8191, 16383]
theorem impl_choose.tab11 : rtab .any (opsOf Try.f83 11) = impl_choose.T11 := by kernel_rfl
theorem impl_choose.bits11 : waitsOk impl_choose.T11.2 impl_choose.B11 = true := by kernel_rfl
def impl_choose.Says (k : Nat) : Prop := ∀ (w0 w : World) (gm gn : Nat) (W H : Int) (AF : Option Addr) (cF : Nat) (cs : List Int) (AC : Option Addr) (cC : Nat) (crew : List S37) (n cn : Nat) (next : List Int) (i b : Int) (r1 : Bool) (r2 : List Int), gm ≠ gn → crew.length ≤ 20 →
 Kd.C (Kd.int .i64) w0 AF cs.length cs → cs.length ≤ cF → Kd.C k37 w0 AC crew.length crew → w.heap[gm]? = some (.cells #[.int .i64 W, .int .i64 H, .slice AF cs.length cF, .slice AC crew.length cC, .slice (some ⟨gn, 0, none⟩) n cn] 91 (0, 0)) →
 Kd.R (Kd.int .i64) 3 w w0.heap.size (fun _ => True) (.slice (some ⟨gn, 0, none⟩) n cn) next → Below w0.heap.size w0 w → impl_choose.f k W H cs crew next i b = some (r1, r2) →
 Calls Try.prog 83 #[.pointer (some ⟨gm, 0, none⟩), .int .i64 i, .int .i64 b] w fun e w' => e = .returned (.bool r1) ∧ Kd.R (Kd.int .i64) 3 w' w0.heap.size (fun _ => True) (.slice (some ⟨gn, 0, none⟩) n cn) r2 ∧ Below w0.heap.size w0 w' ∧ KeepBut w w' gn none
set_option maxHeartbeats 16000000 in
set_option maxRecDepth 100000 in
theorem impl_choose.step (k : Nat) (ih : ∀ k', k' < k → impl_choose.Says k') : impl_choose.Says k := by
 intro w0 w gm gn W H AF cF cs AC cC crew n cn next i b r1 r2 hne hl hF hcF hR hM hN hB h
 have hu91 := Try.underlying91
 have hu37 := Try.underlying37
 have hu26 := Try.underlying26
 have hu24 := Try.underlying24
 have hu43 := Try.underlying43
 cases k with
 | zero => exact absurd h (by simp [impl_choose.f])
 | succ k =>
 simp only [impl_choose.f] at h
 by_cases i0 : 0 ≤ i
 case neg => rw [if_neg i0] at h; cases h
 rw [if_pos i0] at h
 by_cases i1 : i < (crew.length : Int)
 case neg => rw [if_neg i1] at h; cases h
 rw [if_pos i1] at h
 replace h := Option.bind_eq_some_iff.mp h
 obtain ⟨chs, hch, h⟩ := h
 by_cases hcl : chs.length ≤ 1000
 case neg => rw [if_neg hcl] at h; cases h
 rw [if_pos hcl] at h
 have H' := aM h
 have HCH := aM hch
 have HCL := aM hcl
 have HNE := aM hne
 have HL := aM hl
 have HF := aM hF
 have HCF := aM hcF
 have HR := aM hR
 have HM := aM hM
 have HN := aM hN
 have HB := aM hB
 have IH := aM ih
 have hn_ := (Kd.R_reads' hN).1
 have HNN := aM hn_
 clear h hch hcl hne hl hF hcF hR hM hN hB ih hn_
 obtain ⟨adC, eC, x0, x1, x2, x3, x4⟩ := at_T37 (Kd.C_below HR.out HB.out) i i0 i1
 subst eC
 have z0 := c5_0 HM.out
 have z1 := c5_1 HM.out
 have z2 := c5_2 HM.out
 have z3 := c5_3 HM.out
 have I0 := aM (And.intro i0 i1)
 go_enter Try.func83, Try.ntmps83
 go_wp2
 refine start_ (n := 14) (S := fun w' => w'.cell? ⟨gm, 0, none⟩ = some (.int .i64 W) ∧ w'.cell? ⟨gm, 1, none⟩ = some (.int .i64 H) ∧ w'.cell? ⟨gm, 2, none⟩ = some (.slice AF cs.length cF) ∧ w'.cell? ⟨gm, 3, none⟩ = some (.slice (some adC) crew.length cC) ∧ w'.cell? (adC.add (i.toNat * 5)) = some (.int .i64 (rd_T37 crew i).f0) ∧ w'.cell? ⟨(adC.add (i.toNat * 5)).block, (adC.add (i.toNat * 5)).off + 1, none⟩ = some (.int .i64 (rd_T37 crew i).f1) ∧ w'.cell? ⟨(adC.add (i.toNat * 5)).block, (adC.add (i.toNat * 5)).off + 2, none⟩ = some (.int .i64 (rd_T37 crew i).f2) ∧ w'.cell? ⟨(adC.add (i.toNat * 5)).block, (adC.add (i.toNat * 5)).off + 3, none⟩ = some (.bool (rd_T37 crew i).f3) ∧ w'.cell? ⟨(adC.add (i.toNat * 5)).block, (adC.add (i.toNat * 5)).off + 4, none⟩ = some (.int .i64 (rd_T37 crew i).f4)) (ds := []) #[false, false, false, false, false, false, false, false, false, false, false, false, false, false] (by kernel_rfl) rfl rfl ⟨z0, z1, z2, z3, x0, x1, x2, x3, x4⟩ (fun hHeld => ?_); refine with_tabW impl_choose.tab1 impl_choose.bits1 (fun HT_ HW_ => ?_)
 refine pI_ 0 10 (bqz 14 1) ?_
 refine jI_ 1 11 ?_
 refine jI_ 2 12 ?_
 refine jI_ 4 14 ?_
 refine jI_ 5 15 ?_
 refine jI_ 6 16 ?_
 refine jI_ 8 18 ?_
 refine jI_ 13 23 ?_
 refine sI9_ 3 13 ?_
 refine sI9_ 7 17 ?_
 refine jI_ 9 19 ?_
 refine sI9_ 10 20 ?_
 clear z0 z1 z2 z3 x0 x1 x2 x3 x4
 replace HM := aM (blk_drew HM.out)
 replace HN := aM (Kd.R_drew HN.out)
 replace HB := aM (below_drew HB.out)
 have HK := aM (keep_drew (KeepBut.refl w gn none))
 refine oI_ 11 21 (bqz 14 12287) (fun K hK => ?_)
 refine goes_ Try.func29 (by kernel_rfl) rfl #[.agg #[.int .i64 W, .int .i64 H, .slice AF cs.length cF], .agg #[.int .i64 (rd_T37 crew i).f0, .int .i64 (rd_T37 crew i).f1, .int .i64 (rd_T37 crew i).f2, .bool (rd_T37 crew i).f3, .int .i64 (rd_T37 crew i).f4]] (by rfl) rfl rfl qz17 ?_
 refine (impl_Choices.calls k W H AF cF cs _ _ _ _ _ chs _ (Kd.C_below HF.out HB.out) HCF.out HCH.out).mono ?_
 rintro e w1 ⟨vc, rfl, hc, hb⟩
 refine ⟨_, rfl, ?_⟩
 obtain ⟨Ac, cc, rfl⟩ := Kd.R_slice hc
 have HCR := aM hc
 replace HM := aM (blk_below HM.out hb)
 have GN : Aside0 (gn < w.heap.size) := ⟨Kd.R_lt HN.out gn rfl⟩
 replace HN := aM (Kd.R_below HN.out hb)
 replace HB := aM (below_step HB.out hb)
 have XB := aM hb
 replace HK := aM (KeepBut.trans HK.out (KeepBut.of_below hb gn none) (.inl rfl))
 clear hc hb
 have HLT := aM (at_T37 (Kd.C_below HR.out HB.out) i i0 i1)
 have LT2 := aM (And.intro (c5_0 HM.out) (And.intro (c5_1 HM.out) (And.intro (c5_2 HM.out) (c5_3 HM.out))))
 refine hK.out _ _ ⟨LT2.out.1, LT2.out.2.1, LT2.out.2.2.1, LT2.out.2.2.2, pw_cell_below XB.out hHeld.2.2.2.2.1, pw_cell_below XB.out hHeld.2.2.2.2.2.1, pw_cell_below XB.out hHeld.2.2.2.2.2.2.1, pw_cell_below XB.out hHeld.2.2.2.2.2.2.2.1, pw_cell_below XB.out hHeld.2.2.2.2.2.2.2.2⟩ (fun hHeld => ?_)
 clear hK K
 refine nm_ 21 ?_
 refine jI_ 12 22 ?_
 refine done_ (done_of HT_.out (by kernel_rfl)) ?_
 clear hHeld HLT LT2 XB
 have FC := aM (fun ad (e : Ac = some ad) (hp : 0 < chs.length) => far_slice (g := gn) (by intro e2; have h2 : w.heap.size ≤ gn := Kd.R_base HCR.out gn e2.symm; have := GN.out; omega : some gn ≠ (Value.slice Ac chs.length cc).ownBlock) ad e hp)
 have HCC := aM (Kd.R_reads' HCR.out).2.2
 have HK1 := aM (KeepBut.refl w1 gn none)
 go_wp2
 go_loopg [23] k (fun kq v23 wl => ∃ (nx : List Int) (j : Int), v23 = .int .i64 j ∧ Aside0 (impl_choose.l0 kq W H cs crew nx i b chs j = some (r1, r2)) ∧ Aside0 (kq ≤ k) ∧ Aside0 (Kd.R (Kd.int .i64) 3 wl w0.heap.size (fun _ => True) (.slice (some ⟨gn, 0, none⟩) n cn) nx) ∧ Aside0 (Below w0.heap.size w0 wl) ∧ Aside0 (KeepBut w1 wl gn none))
 case atStart => exact ⟨next, 0, rfl, H', ⟨Nat.le_refl _⟩, HN, HB, HK1⟩
 case round =>
 clear H' HN HB HK1
 obtain ⟨nx, j, rfl, HA, HKQ, HN, HB, HK1⟩ := hrel
 cases gk with
 | zero => exact absurd HA.out (by simp [impl_choose.l0])
 | succ k1 =>
 have H_ := HA.out
 clear HA
 simp only [impl_choose.l0] at H_
 have HNL := aM ((Kd.R_reads' HN.out).1)
 replace HM := aM (KeepBut.blk HK1.out HM.out HNE.out (by simp))
 have z3 := c5_3 HM.out
 have z4 := c5_4 HM.out
 by_cases c1 : j < (chs.length : Int)
 case neg =>
  rw [if_neg c1] at H_
  have d1 : decide (j < (chs.length : Int)) = false := decide_eq_false c1
  by_cases c2 : i < (nx.length : Int)
  case neg => rw [if_neg c2] at H_; cases H_
  rw [if_pos c2] at H_
  simp only [Option.some.injEq, Prod.mk.injEq] at H_
  obtain ⟨rfl, rfl⟩ := H_
  have LX := aM c2
  clear c2 c1
  go_upto_region 11 with (fail)
  obtain ⟨adE, eE, y0, y1, y2, y3, y4⟩ := at_T37 (Kd.C_below HR.out HB.out) i i0 i1
  cases eE
  have in_ : i < (n : Int) := by have := HNL.out; have := LX.out; omega
  clear d1
  refine start_ (n := 15) (S := fun w' => w'.cell? ⟨gm, 3, none⟩ = some (.slice (some adC) crew.length cC) ∧ w'.cell? ⟨gm, 4, none⟩ = some (.slice (some ⟨gn, 0, none⟩) n cn) ∧ w'.cell? ⟨(adC.add (i.toNat * 5)).block, (adC.add (i.toNat * 5)).off + 1, none⟩ = some (.int .i64 (rd_T37 crew i).f1)) (ds := [14]) #[false, false, false, false, false, false, false, false, false, false, false, false, false, false, false] (by kernel_rfl) rfl rfl ⟨z3, z4, y1⟩ (fun hHeld => ?_); refine with_tabW impl_choose.tab11 impl_choose.bits11 (fun HT_ HW_ => ?_)
  refine pI_ 0 72 (bqz 15 1) ?_
  refine jI_ 1 73 ?_
  refine jI_ 2 74 ?_
  refine jI_ 4 76 ?_
  refine jI_ 5 77 ?_
  refine jI_ 6 78 ?_
  refine jI_ 7 79 ?_
  refine jI_ 9 81 ?_
  refine sI3_ 3 75 ?_
  refine sI3_ 8 80 ?_
  refine jI_ 10 82 ?_
  refine jI_ 11 83 ?_
  refine sI3_ 12 84 ?_
  refine jI_ 13 85 ?_
  have HN' := aM (Kd.R_drew HN.out)
  have HB' := aM (below_drew HB.out)
  have HK' := aM (keep_drew HK1.out)
  obtain ⟨cs_, hcl_, hM_, hcc_, hfr_⟩ := Kd.R_elem HN'.out 0 i i0 in_
  obtain rfl := hM_
  have xg := hcc_ 0 _ rfl
  have fg := hfr_ 0
  rw [show (Kd.int .i64).sz = 1 from rfl, Nat.mul_one, Nat.add_zero] at xg fg
  clear hcl_ hcc_ hfr_
  refine last_ (i := 14) (N := none) (bqz 15 32767) rfl rfl qzc (by decide) (fun K hK => ?_)
  refine sk_ ?_
  refine hK.out _ _ ?_
  clear hK K
  refine done_ (done_of HT_.out (by kernel_rfl)) ?_
  clear xg fg hHeld z3 z4
  go_wp2
  go_ret
  exact ⟨rfl, Kd.R_putn HN'.out i (rd_T37 crew i).f1, below_set HB'.out (Kd.R_base HN'.out gn rfl), KeepBut.trans HK.out (KeepBut.set_ HK'.out i.toNat (.int .i64 (rd_T37 crew i).f1)) (.inl rfl)⟩
 rw [if_pos c1] at H_
 have d1 : decide (j < (chs.length : Int)) = true := decide_eq_true c1
 by_cases c2 : 0 ≤ j
 case neg => rw [if_neg c2] at H_; cases H_
 rw [if_pos c2] at H_
 replace H_ := Option.bind_eq_some_iff.mp H_
 obtain ⟨tk, htk, H_⟩ := H_
 have HTK := aM htk
 clear htk
 obtain ⟨adc, ec, xc⟩ := Kd.at_int (C_keepI HCC.out HK1.out FC.out) j c2 c1
 cases ec
 obtain ⟨cv, hcv⟩ : ∃ cv : Int, cv = rd chs j := ⟨_, rfl⟩
 rw [← hcv] at H_ HTK xc
 have CV := aM hcv
 clear hcv
 have ew : wrap64 (j + 1) = j + 1 := by have := HCL.out; unfold wrap64; omega
 rw [ew] at H_
 have EW := aM ew
 clear ew
 have j1000 : j < 1000 := by have := HCL.out; omega
 cases tk with
 | true =>
  rw [if_pos rfl] at H_
  have H' := aM H_
  clear H_
  go_wp2_with (go_at_call 104; (with_reducible refine (impl_taken.calls k1 gm _ _ _ _ _ cn nx cv true _ (by rw [← HNL.out]; exact HM.out) (by have h_ := (Kd.R_reads' HN.out).2.2; exact h_) (by have h_ := (Kd.R_reads' HN.out).2.1; have := HNL.out; omega) HTK.out).mono ?_); rintro e w2 ⟨rfl, ⟨nd, rfl⟩⟩)
  go_roundg k1
  case measure => have := HKQ.out; omega
  case rel => exact ⟨nx, j + 1, rfl, H', ⟨by have := HKQ.out; omega⟩, ⟨Kd.R_drewN HN.out nd⟩, ⟨pw_below_drewN HB.out nd⟩, ⟨keep_drewN HK1.out nd⟩⟩
 | false =>
  rw [if_neg (by decide)] at H_
  by_cases b0 : 0 ≤ b
  {
  rw [if_pos b0] at H_
  have db : decide (b ≥ 0) = true := decide_eq_true b0
  have db2 : decide (0 ≤ b) = true := decide_eq_true b0
  by_cases b1 : b < (crew.length : Int)
  case neg => rw [if_neg b1] at H_; cases H_
  rw [if_pos b1] at H_
  obtain ⟨adB, eB, w0_, u1, w2_, w3_, w4_⟩ := at_T37 (Kd.C_below HR.out HB.out) b b0 b1
  cases eB
  clear w0_ w2_ w3_ w4_
  by_cases c3 : cv = (rd_T37 crew b).f1
  {
  rw [if_pos c3] at H_
  have d3 : (cv == (rd_T37 crew b).f1) = true := by simpa using c3
  have H' := aM H_
  clear H_ c3
  go_wp2_with (go_at_call 104; (with_reducible refine (impl_taken.calls k1 gm _ _ _ _ _ cn nx cv false _ (by rw [← HNL.out]; exact HM.out) (by have h_ := (Kd.R_reads' HN.out).2.2; exact h_) (by have h_ := (Kd.R_reads' HN.out).2.1; have := HNL.out; omega) HTK.out).mono ?_); rintro e w2 ⟨rfl, ⟨nd, rfl⟩⟩)
  go_roundg k1
  case measure => have := HKQ.out; omega
  case rel => exact ⟨nx, j + 1, rfl, H', ⟨by have := HKQ.out; omega⟩, ⟨Kd.R_drewN HN.out nd⟩, ⟨pw_below_drewN HB.out nd⟩, ⟨keep_drewN HK1.out nd⟩⟩
  }
  {
  rw [if_neg c3] at H_
  have d3 : (cv == (rd_T37 crew b).f1) = false := by simpa using c3
  clear c3
  obtain ⟨k2, rfl⟩ : ∃ k2, k1 = k2 + 1 := by
   cases k1 with
   | zero => exact absurd H_ (by simp [impl_choose.j1])
   | succ k2 => exact ⟨k2, rfl⟩
  simp only [impl_choose.j1] at H_
  by_cases c5 : i < (nx.length : Int)
  case neg => rw [if_neg c5] at H_; cases H_
  rw [if_pos c5, ← CV.out] at H_
  replace H_ := Option.bind_eq_some_iff.mp H_
  obtain ⟨o, ho, H_⟩ := H_
  obtain ⟨nx2, hnx2⟩ : ∃ nx2 : List Int, nx2 = nx.set i.toNat cv := ⟨_, rfl⟩
  rw [← hnx2] at H_ ho
  have HO := aM ho
  have NX := aM hnx2
  clear ho hnx2
  have in_ : i < (n : Int) := by have := HNL.out; omega
  clear c5
  obtain ⟨cs_, hcl_, hM_, hcc_, hfr_⟩ := Kd.R_elem HN.out 0 i i0 in_
  obtain rfl := hM_
  have xg := hcc_ 0 _ rfl
  have fg := hfr_ 0
  rw [show (Kd.int .i64).sz = 1 from rfl, Nat.mul_one, Nat.add_zero] at xg fg
  clear hcl_ hcc_ hfr_
  go_upto_region 6 with (go_at_call 104; (with_reducible refine (impl_taken.calls (k2 + 1) gm _ _ _ _ _ cn nx cv false _ (by rw [← HNL.out]; exact HM.out) (by have h_ := (Kd.R_reads' HN.out).2.2; exact h_) (by have h_ := (Kd.R_reads' HN.out).2.1; have := HNL.out; omega) HTK.out).mono ?_); rintro e w2 ⟨rfl, ⟨nd, rfl⟩⟩)
  have HN2 := aM (show Kd.R (Kd.int .i64) 3 _ w0.heap.size (fun _ => True) (.slice (some ⟨gn, 0, none⟩) n cn) _ from Kd.R_putn (Kd.R_drewN HN.out nd) i cv)
  rw [← NX.out] at HN2
  have HM2 := aM (blk_far (p := ⟨gn, i.toNat, none⟩) (blk_drewN HM.out nd) HNE.out (.int .i64 cv))
  have HB2 := aM (below_set (pw_below_drewN HB.out nd) (g := gn) (j := i.toNat) (v := .int .i64 cv) (Kd.R_base HN.out gn rfl))
  have HK2 := aM (KeepBut.set_ (keep_drewN HK1.out nd) i.toNat (.int .i64 cv))
  generalize (wr.drewN nd).setCell ⟨gn, i.toNat, none⟩ (.int .i64 cv) = w2 at HN2 HM2 HB2 HK2 ⊢
  clear xg fg HN HB HK1 HM z3 z4 xc d1 u1
  have HNL2 := aM ((Kd.R_reads' HN2.out).1)
  by_cases o0 : o < 0
  {
  rw [if_pos o0] at H_
  simp only [Option.some.injEq, Prod.mk.injEq] at H_
  obtain ⟨rfl, rfl⟩ := H_
  have do_ : decide (o < 0) = true := decide_eq_true o0
  clear HNL NX
  go_wp2_with (go_at_call 105; (with_reducible refine (impl_there.calls k2 gm _ _ _ _ cC crew _ cn nx2 cv i o _ (by rw [← HNL2.out]; exact HM2.out) (Kd.C_below HR.out HB2.out) (by have h_ := (Kd.R_reads' HN2.out).2.2; exact h_) HL.out HO.out).mono ?_); rintro e w3 ⟨rfl, hb⟩; replace HN2 := aM (Kd.R_below HN2.out hb); replace HB2 := aM (below_step HB2.out hb); replace HK2 := aM (KeepBut.trans HK2.out (KeepBut.of_below hb gn none) (.inl rfl)); clear hb)
  go_ret
  exact ⟨rfl, HN2.out, HB2.out, KeepBut.trans HK.out HK2.out (.inl rfl)⟩
  }
  {
  rw [if_neg o0] at H_
  have do_ : decide (o < 0) = false := decide_eq_false o0
  replace H_ := Option.bind_eq_some_iff.mp H_
  obtain ⟨⟨q1, q2⟩, hq, H_⟩ := H_
  have HQ := aM hq
  clear hq
  dsimp only at H_
  cases q1 with
  | true =>
   rw [if_pos rfl] at H_
   simp only [Option.some.injEq, Prod.mk.injEq] at H_
   obtain ⟨rfl, rfl⟩ := H_
   go_wp2_with (first
    | (go_at_call 105; (with_reducible refine (impl_there.calls k2 gm _ _ _ _ cC crew _ cn nx2 cv i o _ (by rw [← HNL2.out]; exact HM2.out) (Kd.C_below HR.out HB2.out) (by have h_ := (Kd.R_reads' HN2.out).2.2; exact h_) HL.out HO.out).mono ?_); rintro e w3 ⟨rfl, hb⟩; replace HN2 := aM (Kd.R_below HN2.out hb); replace HM2 := aM (blk_below HM2.out hb); replace HB2 := aM (below_step HB2.out hb); replace HK2 := aM (KeepBut.trans HK2.out (KeepBut.of_below hb gn none) (.inl rfl)); clear hb)
    | (go_at_call 83; refine (IH.out k2 (by have := HKQ.out; omega) w0 _ gm gn W H AF cF cs (some adC) cC crew n cn nx2 o i true q2 HNE.out HL.out HF.out HCF.out HR.out HM2.out HN2.out HB2.out HQ.out).mono ?_; rintro e w4 ⟨rfl, hn, hb, hk⟩; replace HN2 := aM hn; replace HB2 := aM hb; replace HK2 := aM (KeepBut.trans HK2.out hk (.inl rfl)); clear hn hb hk))
   go_ret
   exact ⟨rfl, HN2.out, HB2.out, KeepBut.trans HK.out HK2.out (.inl rfl)⟩
  | false =>
   rw [if_neg nF_, EW.out] at H_
   have H' := aM H_
   clear H_
   go_wp2_with (first
    | (go_at_call 105; (with_reducible refine (impl_there.calls k2 gm _ _ _ _ cC crew _ cn nx2 cv i o _ (by rw [← HNL2.out]; exact HM2.out) (Kd.C_below HR.out HB2.out) (by have h_ := (Kd.R_reads' HN2.out).2.2; exact h_) HL.out HO.out).mono ?_); rintro e w3 ⟨rfl, hb⟩; replace HN2 := aM (Kd.R_below HN2.out hb); replace HM2 := aM (blk_below HM2.out hb); replace HB2 := aM (below_step HB2.out hb); replace HK2 := aM (KeepBut.trans HK2.out (KeepBut.of_below hb gn none) (.inl rfl)); clear hb)
    | (go_at_call 83; refine (IH.out k2 (by have := HKQ.out; omega) w0 _ gm gn W H AF cF cs (some adC) cC crew n cn nx2 o i false q2 HNE.out HL.out HF.out HCF.out HR.out HM2.out HN2.out HB2.out HQ.out).mono ?_; rintro e w4 ⟨rfl, hn, hb, hk⟩; replace HN2 := aM hn; replace HB2 := aM hb; replace HM2 := aM (KeepBut.blk hk HM2.out HNE.out (by simp)); replace HK2 := aM (KeepBut.trans HK2.out hk (.inl rfl)); clear hn hb hk; have z4 := c5_4 HM2.out; obtain ⟨cs2_, hcl2_, hM2_, hcc2_, hfr2_⟩ := Kd.R_elem HN2.out 0 i i0 in_; obtain rfl := hM2_; have xg2 := hcc2_ 0 _ rfl; have fg2 := hfr2_ 0; rw [show (Kd.int .i64).sz = 1 from rfl, Nat.mul_one, Nat.add_zero] at xg2 fg2; clear hcl2_ hcc2_ hfr2_))
   go_roundg k2
   case measure => have := HKQ.out; omega
   case rel => exact ⟨_, j + 1, rfl, H', ⟨by have := HKQ.out; omega⟩, ⟨Kd.R_putn HN2.out i (-1)⟩, ⟨below_set HB2.out (Kd.R_base HN2.out gn rfl)⟩, ⟨KeepBut.set_ HK2.out i.toNat (.int .i64 (-1))⟩⟩
  }
  }
  }
  {
  rw [if_neg b0] at H_
  have db : decide (b ≥ 0) = false := decide_eq_false b0
  have db2 : decide (0 ≤ b) = false := decide_eq_false b0
  have db3 : b < 0 := by omega
  obtain ⟨k2, rfl⟩ : ∃ k2, k1 = k2 + 1 := by
   cases k1 with
   | zero => exact absurd H_ (by simp [impl_choose.j1])
   | succ k2 => exact ⟨k2, rfl⟩
  simp only [impl_choose.j1] at H_
  by_cases c5 : i < (nx.length : Int)
  case neg => rw [if_neg c5] at H_; cases H_
  rw [if_pos c5, ← CV.out] at H_
  replace H_ := Option.bind_eq_some_iff.mp H_
  obtain ⟨o, ho, H_⟩ := H_
  obtain ⟨nx2, hnx2⟩ : ∃ nx2 : List Int, nx2 = nx.set i.toNat cv := ⟨_, rfl⟩
  rw [← hnx2] at H_ ho
  have HO := aM ho
  have NX := aM hnx2
  clear ho hnx2
  have in_ : i < (n : Int) := by have := HNL.out; omega
  clear c5
  obtain ⟨cs_, hcl_, hM_, hcc_, hfr_⟩ := Kd.R_elem HN.out 0 i i0 in_
  obtain rfl := hM_
  have xg := hcc_ 0 _ rfl
  have fg := hfr_ 0
  rw [show (Kd.int .i64).sz = 1 from rfl, Nat.mul_one, Nat.add_zero] at xg fg
  clear hcl_ hcc_ hfr_
  go_upto_region 6 with (go_at_call 104; (with_reducible refine (impl_taken.calls (k2 + 1) gm _ _ _ _ _ cn nx cv false _ (by rw [← HNL.out]; exact HM.out) (by have h_ := (Kd.R_reads' HN.out).2.2; exact h_) (by have h_ := (Kd.R_reads' HN.out).2.1; have := HNL.out; omega) HTK.out).mono ?_); rintro e w2 ⟨rfl, ⟨nd, rfl⟩⟩)
  have HN2 := aM (show Kd.R (Kd.int .i64) 3 _ w0.heap.size (fun _ => True) (.slice (some ⟨gn, 0, none⟩) n cn) _ from Kd.R_putn (Kd.R_drewN HN.out nd) i cv)
  rw [← NX.out] at HN2
  have HM2 := aM (blk_far (p := ⟨gn, i.toNat, none⟩) (blk_drewN HM.out nd) HNE.out (.int .i64 cv))
  have HB2 := aM (below_set (pw_below_drewN HB.out nd) (g := gn) (j := i.toNat) (v := .int .i64 cv) (Kd.R_base HN.out gn rfl))
  have HK2 := aM (KeepBut.set_ (keep_drewN HK1.out nd) i.toNat (.int .i64 cv))
  generalize (wr.drewN nd).setCell ⟨gn, i.toNat, none⟩ (.int .i64 cv) = w2 at HN2 HM2 HB2 HK2 ⊢
  clear xg fg HN HB HK1 HM z3 z4 xc d1
  have HNL2 := aM ((Kd.R_reads' HN2.out).1)
  by_cases o0 : o < 0
  {
  rw [if_pos o0] at H_
  simp only [Option.some.injEq, Prod.mk.injEq] at H_
  obtain ⟨rfl, rfl⟩ := H_
  have do_ : decide (o < 0) = true := decide_eq_true o0
  clear HNL NX
  go_wp2_with (go_at_call 105; (with_reducible refine (impl_there.calls k2 gm _ _ _ _ cC crew _ cn nx2 cv i o _ (by rw [← HNL2.out]; exact HM2.out) (Kd.C_below HR.out HB2.out) (by have h_ := (Kd.R_reads' HN2.out).2.2; exact h_) HL.out HO.out).mono ?_); rintro e w3 ⟨rfl, hb⟩; replace HN2 := aM (Kd.R_below HN2.out hb); replace HB2 := aM (below_step HB2.out hb); replace HK2 := aM (KeepBut.trans HK2.out (KeepBut.of_below hb gn none) (.inl rfl)); clear hb)
  go_ret
  exact ⟨rfl, HN2.out, HB2.out, KeepBut.trans HK.out HK2.out (.inl rfl)⟩
  }
  {
  rw [if_neg o0] at H_
  have do_ : decide (o < 0) = false := decide_eq_false o0
  replace H_ := Option.bind_eq_some_iff.mp H_
  obtain ⟨⟨q1, q2⟩, hq, H_⟩ := H_
  have HQ := aM hq
  clear hq
  dsimp only at H_
  cases q1 with
  | true =>
   rw [if_pos rfl] at H_
   simp only [Option.some.injEq, Prod.mk.injEq] at H_
   obtain ⟨rfl, rfl⟩ := H_
   go_wp2_with (first
    | (go_at_call 105; (with_reducible refine (impl_there.calls k2 gm _ _ _ _ cC crew _ cn nx2 cv i o _ (by rw [← HNL2.out]; exact HM2.out) (Kd.C_below HR.out HB2.out) (by have h_ := (Kd.R_reads' HN2.out).2.2; exact h_) HL.out HO.out).mono ?_); rintro e w3 ⟨rfl, hb⟩; replace HN2 := aM (Kd.R_below HN2.out hb); replace HM2 := aM (blk_below HM2.out hb); replace HB2 := aM (below_step HB2.out hb); replace HK2 := aM (KeepBut.trans HK2.out (KeepBut.of_below hb gn none) (.inl rfl)); clear hb)
    | (go_at_call 83; refine (IH.out k2 (by have := HKQ.out; omega) w0 _ gm gn W H AF cF cs (some adC) cC crew n cn nx2 o i true q2 HNE.out HL.out HF.out HCF.out HR.out HM2.out HN2.out HB2.out HQ.out).mono ?_; rintro e w4 ⟨rfl, hn, hb, hk⟩; replace HN2 := aM hn; replace HB2 := aM hb; replace HK2 := aM (KeepBut.trans HK2.out hk (.inl rfl)); clear hn hb hk))
   go_ret
   exact ⟨rfl, HN2.out, HB2.out, KeepBut.trans HK.out HK2.out (.inl rfl)⟩
  | false =>
   rw [if_neg nF_, EW.out] at H_
   have H' := aM H_
   clear H_
   go_wp2_with (first
    | (go_at_call 105; (with_reducible refine (impl_there.calls k2 gm _ _ _ _ cC crew _ cn nx2 cv i o _ (by rw [← HNL2.out]; exact HM2.out) (Kd.C_below HR.out HB2.out) (by have h_ := (Kd.R_reads' HN2.out).2.2; exact h_) HL.out HO.out).mono ?_); rintro e w3 ⟨rfl, hb⟩; replace HN2 := aM (Kd.R_below HN2.out hb); replace HM2 := aM (blk_below HM2.out hb); replace HB2 := aM (below_step HB2.out hb); replace HK2 := aM (KeepBut.trans HK2.out (KeepBut.of_below hb gn none) (.inl rfl)); clear hb)
    | (go_at_call 83; refine (IH.out k2 (by have := HKQ.out; omega) w0 _ gm gn W H AF cF cs (some adC) cC crew n cn nx2 o i false q2 HNE.out HL.out HF.out HCF.out HR.out HM2.out HN2.out HB2.out HQ.out).mono ?_; rintro e w4 ⟨rfl, hn, hb, hk⟩; replace HN2 := aM hn; replace HB2 := aM hb; replace HM2 := aM (KeepBut.blk hk HM2.out HNE.out (by simp)); replace HK2 := aM (KeepBut.trans HK2.out hk (.inl rfl)); clear hn hb hk; have z4 := c5_4 HM2.out; obtain ⟨cs2_, hcl2_, hM2_, hcc2_, hfr2_⟩ := Kd.R_elem HN2.out 0 i i0 in_; obtain rfl := hM2_; have xg2 := hcc2_ 0 _ rfl; have fg2 := hfr2_ 0; rw [show (Kd.int .i64).sz = 1 from rfl, Nat.mul_one, Nat.add_zero] at xg2 fg2; clear hcl2_ hcc2_ hfr2_))
   go_roundg k2
   case measure => have := HKQ.out; omega
   case rel => exact ⟨_, j + 1, rfl, H', ⟨by have := HKQ.out; omega⟩, ⟨Kd.R_putn HN2.out i (-1)⟩, ⟨below_set HB2.out (Kd.R_base HN2.out gn rfl)⟩, ⟨KeepBut.set_ HK2.out i.toNat (.int .i64 (-1))⟩⟩
  }
  }
theorem impl_choose.calls (k : Nat) : impl_choose.Says k := Nat.strongRecOn k (fun k ih => impl_choose.step k ih)
theorem impl_there.mono_l : ∀ k, (∀ y0 y1 y2 y3 y4, LeO (impl_there.l0 k y0 y1 y2 y3 y4) (impl_there.l0 (k + 1) y0 y1 y2 y3 y4))
 | 0 => fun _ _ _ _ _ r h => by simp [impl_there.l0] at h
 | k + 1 => by
  have ih0 := impl_there.mono_l k
  intro y0 y1 y2 y3 y4
  unfold impl_there.l0
  exact qL
theorem impl_there.mono (a0 : List S37) (a1 : List Int) (a2 a3 : Int) (k : Nat) : LeO (impl_there.f k a0 a1 a2 a3) (impl_there.f (k + 1) a0 a1 a2 a3) := impl_there.mono_l k _ _ _ _ _
theorem impl_choose.mono_l : ∀ k, (∀ y0 y1 y2 y3 y4 y5 y6, LeO (impl_choose.f k y0 y1 y2 y3 y4 y5 y6) (impl_choose.f (k + 1) y0 y1 y2 y3 y4 y5 y6)) ∧ (∀ y0 y1 y2 y3 y4 y5 y6 y7 y8, LeO (impl_choose.l0 k y0 y1 y2 y3 y4 y5 y6 y7 y8) (impl_choose.l0 (k + 1) y0 y1 y2 y3 y4 y5 y6 y7 y8)) ∧ (∀ y0 y1 y2 y3 y4 y5 y6 y7 y8, LeO (impl_choose.j1 k y0 y1 y2 y3 y4 y5 y6 y7 y8) (impl_choose.j1 (k + 1) y0 y1 y2 y3 y4 y5 y6 y7 y8))
 | 0 => ⟨fun _ _ _ _ _ _ _ r h => by simp [impl_choose.f] at h, fun _ _ _ _ _ _ _ _ _ r h => by simp [impl_choose.l0] at h, fun _ _ _ _ _ _ _ _ _ r h => by simp [impl_choose.j1] at h⟩
 | k + 1 => by
  obtain ⟨ih0, ih1, ih2⟩ := impl_choose.mono_l k
  refine ⟨?_, ?_, ?_⟩
  {
  intro y0 y1 y2 y3 y4 y5 y6
  unfold impl_choose.f
  have j0 := @impl_Choices.mono
  have j1 := @impl_hasInt.mono
  have j2 := @impl_there.mono
  exact qL
  }
  {
  intro y0 y1 y2 y3 y4 y5 y6 y7 y8
  unfold impl_choose.l0
  have j0 := @impl_Choices.mono
  have j1 := @impl_hasInt.mono
  have j2 := @impl_there.mono
  exact qL
  }
  {
  intro y0 y1 y2 y3 y4 y5 y6 y7 y8
  unfold impl_choose.j1
  have j0 := @impl_Choices.mono
  have j1 := @impl_hasInt.mono
  have j2 := @impl_there.mono
  exact qL
  }
def impl_Step.l0 : Nat → Int → Int → List Int → List S37 → List Int → List Int → Int → Option (List Int)
 | 0, _, _, _, _, _, _, _ => none
 | k + 1, W, H, cs, crew, ts, nx, j => if j < (ts.length : Int) then (if 0 ≤ j then (if 0 ≤ rd ts j then (if rd ts j < (nx.length : Int) then (if rd nx (rd ts j) < 0 then (impl_choose.f k W H cs crew nx (rd ts j) (-1)).bind fun q => impl_Step.l0 k W H cs crew ts q.2 (wrap64 (j + 1)) else impl_Step.l0 k W H cs crew ts nx (wrap64 (j + 1))) else none) else none) else none) else some nx
def impl_Step.f (k : Nat) (W H : Int) (cs : List Int) (crew : List S37) : Option (List Int) :=
 (impl_CrewOk.f k W H cs crew).bind fun b => if b = true then (if crew.length ≤ 20 then (impl_Turns.f crew).bind fun ts => if ts.length ≤ 20 then impl_Step.l0 k W H cs crew ts (List.replicate crew.length (-1)) 0 else none else none) else some []
theorem impl_Step.mono_l : ∀ k, (∀ y0 y1 y2 y3 y4 y5 y6, LeO (impl_Step.l0 k y0 y1 y2 y3 y4 y5 y6) (impl_Step.l0 (k + 1) y0 y1 y2 y3 y4 y5 y6))
 | 0 => fun _ _ _ _ _ _ _ r h => by simp [impl_Step.l0] at h
 | k + 1 => by
  have ih0 := impl_Step.mono_l k
  intro y0 y1 y2 y3 y4 y5 y6
  unfold impl_Step.l0
  repeat' first
   | (with_reducible first | exact ih0 _ _ _ _ _ _ _ | exact (impl_choose.mono_l k).1 _ _ _ _ _ _ _ | exact LeO.refl _ | exact LeO.none _ | refine LeO.ite ?_ ?_ | refine LeO.bind ?_ (fun _ => ?_))
theorem impl_Step.mono : ∀ a0 a1 a2 a3 k, LeO (impl_Step.f k a0 a1 a2 a3) (impl_Step.f (k + 1) a0 a1 a2 a3) := by
 intro a0 a1 a2 a3 k
 unfold impl_Step.f
 repeat' first
  | (with_reducible first | exact impl_Step.mono_l k _ _ _ _ _ _ _ | exact impl_CrewOk.mono _ _ _ _ _ | exact LeO.refl _ | exact LeO.none _ | refine LeO.ite ?_ ?_ | refine LeO.bind ?_ (fun _ => ?_))
set_option maxHeartbeats 16000000 in
set_option maxRecDepth 100000 in
theorem impl_Step.callsN (k : Nat) (a0_0 a0_1 : Int) (A0_2 : Option Addr) (c0_2 : Nat) (l0_2 : List Int) (A1 : Option Addr) (c1 : Nat) (l1 : List S37) (r : List Int) (w : World) (hr0_2 : Kd.C (Kd.int .i64) w A0_2 l0_2.length l0_2) (hc0_2 : l0_2.length ≤ c0_2) (hr1 : Kd.C k37 w A1 l1.length l1) (hc1 : l1.length ≤ c1) (hk : impl_CrewOk.f k a0_0 a0_1 l0_2 l1 = some false) (hr : r = []) :
  Calls Try.prog 42 #[.agg #[.int .i64 a0_0, .int .i64 a0_1, .slice A0_2 l0_2.length c0_2], .slice A1 l1.length c1] w fun e w' => ∃ v0_ : Value, e = .returned v0_ ∧ Kd.R (Kd.int .i64) 3 w' w.heap.size (fun _ => True) v0_ r ∧ Below w.heap.size w w' := by
 subst hr
 have HO := aM hk
 clear hk
 have hu43 := Try.underlying43
 have hu91 := Try.underlying91
 have hu37 := Try.underlying37
 have hu26 := Try.underlying26
 have hu24 := Try.underlying24
 have HF := aM hr0_2
 have HCF := aM hc0_2
 have HR := aM hr1
 have HCR := aM hc1
 clear hr0_2 hc0_2 hr1 hc1
 have HB := aM (Below.refl w.heap.size w)
 go_enter Try.func42, Try.ntmps42
 go_wp2_with (first
  | ((with_reducible refine gate_dst (N := 2) rfl ?_); refine box_event rfl (N := 2) rfl (cs := #[.int .i64 a0_0, .int .i64 a0_1, .slice A0_2 l0_2.length c0_2]) (t := 43) ?hr ?_; (case hr => exact qz7); intro b2 hg w1 hbx hb; have BK2 := aM hbx; replace HB := aM (below_step HB.out hb); clear hb hbx hg; have z0 := c3_0 BK2.out; have z1 := c3_1 BK2.out; have z2 := c3_2 BK2.out)
  | (go_at_call 45; (with_reducible refine (impl_CrewOk.calls k a0_0 a0_1 _ _ l0_2 _ _ l1 false _ (Kd.C_below HF.out HB.out) HCF.out (Kd.C_below HR.out HB.out) HCR.out HO.out).mono ?_); rintro e w2 ⟨rfl, hb⟩; replace BK2 := aM (blk_below BK2.out hb); replace HB := aM (below_step HB.out hb); clear hb; replace z0 := c3_0 BK2.out; replace z1 := c3_1 BK2.out; replace z2 := c3_2 BK2.out))
 go_ret
 exact ⟨_, rfl, Kd.R_nil _ _ _ _ _, HB.out⟩
set_option maxHeartbeats 16000000 in
set_option maxRecDepth 100000 in
theorem impl_Step.callsM (k : Nat) (a0_0 a0_1 : Int) (A0_2 : Option Addr) (c0_2 : Nat) (l0_2 : List Int) (A1 : Option Addr) (c1 : Nat) (l1 : List S37) (r : List Int) (w : World) (hr0_2 : Kd.C (Kd.int .i64) w A0_2 l0_2.length l0_2) (hc0_2 : l0_2.length ≤ c0_2) (hr1 : Kd.C k37 w A1 l1.length l1) (hc1 : l1.length ≤ c1) (hk : impl_CrewOk.f k a0_0 a0_1 l0_2 l1 = some true) (h20 : l1.length ≤ 20) (ts : List Int) (ht : impl_Turns.f l1 = some ts) (hts : ts.length ≤ 20) (h : impl_Step.l0 k a0_0 a0_1 l0_2 l1 ts (List.replicate l1.length (-1)) 0 = some r) :
  Calls Try.prog 42 #[.agg #[.int .i64 a0_0, .int .i64 a0_1, .slice A0_2 l0_2.length c0_2], .slice A1 l1.length c1] w fun e w' => ∃ v0_ : Value, e = .returned v0_ ∧ Kd.R (Kd.int .i64) 3 w' w.heap.size (fun _ => True) v0_ r ∧ Below w.heap.size w w' := by
 have HO := aM hk
 have H20 := aM h20
 have HT := aM ht
 have HTS := aM hts
 have H' := aM h
 clear hk h20 ht hts h
 have hu43 := Try.underlying43
 have hu91 := Try.underlying91
 have hu37 := Try.underlying37
 have hu26 := Try.underlying26
 have hu24 := Try.underlying24
 have HF := aM hr0_2
 have HCF := aM hc0_2
 have HR := aM hr1
 have HCR := aM hc1
 clear hr0_2 hc0_2 hr1 hc1
 have HB := aM (Below.refl w.heap.size w)
 go_enter Try.func42, Try.ntmps42
 go_wp2_with (first
  | ((with_reducible refine gate_dst (N := 2) rfl ?_); refine box_event rfl (N := 2) rfl (cs := #[.int .i64 a0_0, .int .i64 a0_1, .slice A0_2 l0_2.length c0_2]) (t := 43) ?hr ?_; (case hr => exact qz7); intro b2 hg w1 hbx hb; have BK2 := aM hbx; replace HB := aM (below_step HB.out hb); clear hb hbx hg; have z0 := c3_0 BK2.out; have z1 := c3_1 BK2.out; have z2 := c3_2 BK2.out)
  | (go_at_call 45; (with_reducible refine (impl_CrewOk.calls k a0_0 a0_1 _ _ l0_2 _ _ l1 true _ (Kd.C_below HF.out HB.out) HCF.out (Kd.C_below HR.out HB.out) HCR.out HO.out).mono ?_); rintro e w2 ⟨rfl, hb⟩; replace BK2 := aM (blk_below BK2.out hb); replace HB := aM (below_step HB.out hb); clear hb; replace z0 := c3_0 BK2.out; replace z1 := c3_1 BK2.out; replace z2 := c3_2 BK2.out)
  | ((with_reducible refine gate_dst (N := 15) rfl ?_); refine box_event rfl (N := 15) rfl (cs := #[.int .i64 a0_0, .int .i64 a0_1, .slice A0_2 l0_2.length c0_2, .slice A1 l1.length c1, .slice none 0 0]) (t := 91) ?hr ?_; (case hr => exact qz7); intro bm hg w3 hbx hb; have BM := aM hbx; have GM := aM (by rw [hg]; exact below_size HB.out : w.heap.size ≤ bm); replace HB := aM (below_step HB.out hb); clear hb hbx hg z0 z1 z2))
 go_loopw [18] (fun v18 wl => ∃ (i : Nat) (v : Value), v18 = .int .i64 i ∧ i ≤ l1.length ∧ Aside0 (wl.heap[bm]? = some (.cells #[.int .i64 a0_0, .int .i64 a0_1, .slice A0_2 l0_2.length c0_2, .slice A1 l1.length c1, v] 91 (0, 0))) ∧ Aside0 (Kd.R (Kd.int .i64) 3 wl w.heap.size (fun _ => True) v (List.replicate i (-1))) ∧ Aside0 (Below w.heap.size w wl)) (fun v18 _ => l1.length - (intOf v18).toNat)
 case atStart => exact ⟨0, _, rfl, Nat.zero_le _, BM, ⟨Kd.R_nil _ _ _ _ _⟩, HB⟩
 case round =>
 clear HB BM BK2
 obtain ⟨i, v, rfl, hi, BM, HN, HB⟩ := hrel
 obtain ⟨An, cn, rfl⟩ := Kd.R_slice HN.out
 rw [List.length_replicate] at BM HN
 have z4 := c5_4 BM.out
 by_cases hlt : i < l1.length
 {
 have hd : decide ((i : Int) < (l1.length : Int)) = true := decide_eq_true (by omega)
 have h20_ : (i : Int) < 20 := by have := H20.out; omega
 have LM := aM (show ((List.replicate i (-1 : Int)).length + 1) * 8 ≤ 140737488355328 by rw [List.length_replicate]; omega)
 obtain ⟨xs, hxs⟩ : ∃ xs : List Int, xs = List.replicate i (-1) ++ [-1] := ⟨_, rfl⟩
 have NX := aM hxs
 clear hxs
 go_wp2_with ((with_reducible refine gate_builtin (b := .append) (xs := #[.tmp 24, .tmp 25]) rfl ?_); at_builtin; refine Kd.R_append (Kd.int .i64) (w0 := w) w.heap.size rfl (.tmp 24) (.tmp 25) 24 3 (.int .i64 0) 8 rfl Try.underlying24 info3 rfl (by decide) (by omega) (.slice An i cn) (List.replicate i (-1)) (-1) [.int .i64 (-1)] (fun _ => True) (fun _ => False) rfl rfl ?aP (fun _ hk => hk.elim) ?aF ?aO ?aB ?aS ?aL ?_; (case aP => exact rfl); (case aB => exact HB.out); (case aF => exact qz12); (case aO => exact HN.out); (case aS => exact below_size HB.out); (case aL => exact LM.out); intro v1 w4 ho hb hg hat; rw [← NX.out] at ho; obtain ⟨A3, c3, rfl⟩ := Kd.R_slice ho; replace BM := aM (blk_grown BM.out hg (Kd.R_ne HN.out BM.out (by decide))); replace HB := aM hb; replace HN := aM ho; clear ho hb hg hat z4; have z4 := c5_4 BM.out; have f4 := blk_frozen BM.out 4)
 have el : xs.length = i + 1 := by rw [NX.out]; simp
 go_roundw
 case rel =>
  refine ⟨i + 1, _, by go_num, by omega, ⟨blk_put BM.out 4 _ rfl⟩, ⟨?_⟩, ⟨below_set HB.out GM.out⟩⟩
  rw [List.replicate_succ' (n := i), ← NX.out]
  exact Kd.R_set HN.out BM.out (by decide) 4 _
 case measure => simp [intOf]; omega
 }
 {
 obtain rfl : i = l1.length := by omega
 have hd : decide ((l1.length : Int) < (l1.length : Int)) = false := decide_eq_false (by omega)
 obtain ⟨nx0, hnx0⟩ : ∃ nx0 : List Int, nx0 = List.replicate l1.length (-1) := ⟨_, rfl⟩
 rw [← hnx0] at HN H'
 have HNL := aM (show l1.length = nx0.length by rw [hnx0, List.length_replicate])
 clear hnx0 z4
 go_wp2_with (go_at_call 17; (with_reducible refine (impl_Turns.calls _ _ l1 ts _ (Kd.C_below HR.out HB.out) HCR.out HT.out).mono ?_); rintro e w5 ⟨vt, rfl, hts, hb⟩; have HTR := aM hts; obtain ⟨At, ct, rfl⟩ := Kd.R_slice hts; have XB := aM (Kd.R_base HTR.out); have XL := aM (Kd.R_lt HN.out); replace BM := aM (blk_below BM.out hb); replace HN := aM (Kd.R_below HN.out hb); replace HB := aM (below_step HB.out hb); have FT := aM (show ∀ (ad : Addr), At = some ad → ∀ g : Nat, An = some ⟨g, 0, none⟩ → ad.block ≠ g from fun ad e g h e' => Nat.lt_irrefl g (Nat.lt_of_lt_of_le (XL.out g (by rw [h]; rfl)) (XB.out g (by rw [e, ← e']; rfl)))); clear hts hb XB XL)
 have HTC := aM (Kd.R_reads' HTR.out).2.2
 clear hd
 go_loopg [33] k (fun kq v33 wl => ∃ (nx : List Int) (j : Int), v33 = .int .i64 j ∧ Aside0 (impl_Step.l0 kq a0_0 a0_1 l0_2 l1 ts nx j = some r) ∧ Aside0 (kq ≤ k) ∧ Aside0 (wl.heap[bm]? = some (.cells #[.int .i64 a0_0, .int .i64 a0_1, .slice A0_2 l0_2.length c0_2, .slice A1 l1.length c1, .slice An l1.length cn] 91 (0, 0))) ∧ Aside0 (Kd.R (Kd.int .i64) 3 wl w.heap.size (fun _ => True) (.slice An l1.length cn) nx) ∧ Aside0 (Below w.heap.size w wl) ∧ Aside0 (Kd.C (Kd.int .i64) wl At ts.length ts))
 case atStart => exact ⟨nx0, 0, rfl, H', ⟨Nat.le_refl _⟩, BM, HN, HB, HTC⟩
 case round =>
 clear H' BM HN HB HTC HTR HNL
 obtain ⟨nx, j, rfl, HA, HKQ, BM, HN, HB, HTC⟩ := hrel
 cases gk with
 | zero => exact absurd HA.out (by simp [impl_Step.l0])
 | succ k1 =>
 have H_ := HA.out
 clear HA
 simp only [impl_Step.l0] at H_
 have HNL := aM ((Kd.R_reads' HN.out).1)
 have z4 := c5_4 BM.out
 by_cases e1 : j < (ts.length : Int)
 case neg =>
  rw [if_neg e1] at H_
  obtain rfl := Option.some.inj H_
  have d1 : decide (j < (ts.length : Int)) = false := decide_eq_false e1
  go_wp2
  go_ret
  exact ⟨_, rfl, HN.out, HB.out⟩
 rw [if_pos e1] at H_
 have d1 : decide (j < (ts.length : Int)) = true := decide_eq_true e1
 by_cases e2 : 0 ≤ j
 case neg => rw [if_neg e2] at H_; cases H_
 rw [if_pos e2] at H_
 obtain ⟨adt, et, xt⟩ := Kd.at_int HTC.out j e2 e1
 subst et
 obtain ⟨cv, hcv⟩ : ∃ cv : Int, cv = rd ts j := ⟨_, rfl⟩
 rw [← hcv] at H_ xt
 clear hcv
 by_cases e3 : 0 ≤ cv
 case neg => rw [if_neg e3] at H_; cases H_
 rw [if_pos e3] at H_
 by_cases e4 : cv < (nx.length : Int)
 case neg => rw [if_neg e4] at H_; cases H_
 rw [if_pos e4] at H_
 obtain ⟨gn, cap, eg, _, _, _⟩ := Kd.R_form HN.out (by omega)
 injection eg with ea_ en_ ec_
 subst ea_
 subst ec_
 clear en_
 have in_ : cv < (l1.length : Int) := by have := HNL.out; omega
 have NE := aM (fun e : bm = gn => Kd.R_ne HN.out BM.out (by decide) (by rw [e]; rfl))
 obtain ⟨cs_, hcl_, hM_, hcc_, hfr_⟩ := Kd.R_elem HN.out 0 cv e3 in_
 obtain rfl := hM_
 have xg := hcc_ 0 _ rfl
 rw [show (Kd.int .i64).sz = 1 from rfl, Nat.mul_one, Nat.add_zero] at xg
 clear hcl_ hcc_ hfr_
 change wr.cell? _ = some (.int .i64 (rd nx cv)) at xg
 have ew : wrap64 (j + 1) = j + 1 := by have := HTS.out; unfold wrap64; omega
 rw [ew] at H_
 clear ew
 have j20 : j < 20 := by have := HTS.out; omega
 by_cases e5 : rd nx cv < 0
 {
 rw [if_pos e5] at H_
 replace H_ := Option.bind_eq_some_iff.mp H_
 obtain ⟨⟨q1, q2⟩, hq, H_⟩ := H_
 have HQ := aM hq
 have H' := aM H_
 have d5 : decide (rd nx cv < 0) = true := decide_eq_true e5
 clear hq H_
 go_wp2_with (go_at_call 83; refine (impl_choose.calls k1 w _ bm gn a0_0 a0_1 A0_2 c0_2 l0_2 A1 c1 l1 l1.length cn nx cv (-1) q1 q2 NE.out H20.out HF.out HCF.out HR.out BM.out HN.out HB.out HQ.out).mono ?_; rintro e w6 ⟨rfl, hn, hb, hk⟩; have HN2 := aM hn; have HB2 := aM hb; have HKB := aM hk; clear hn hb hk)
 go_roundg k1
 case measure => have := HKQ.out; omega
 case rel => exact ⟨q2, j + 1, rfl, H', ⟨by have := HKQ.out; omega⟩, ⟨HKB.out.blk BM.out NE.out (by intro e; cases e)⟩, HN2, HB2, ⟨C_keepI HTC.out HKB.out (fun ad e _ => FT.out ad e gn rfl)⟩⟩
 }
 {
 rw [if_neg e5] at H_
 have H' := aM H_
 have d5 : decide (rd nx cv < 0) = false := decide_eq_false e5
 clear H_
 go_wp2
 go_roundg k1
 case measure => have := HKQ.out; omega
 case rel => exact ⟨nx, j + 1, rfl, H', ⟨by have := HKQ.out; omega⟩, BM, HN, HB, HTC⟩
 }
 }
theorem impl_Step.calls (k : Nat) (a0_0 a0_1 : Int) (A0_2 : Option Addr) (c0_2 : Nat) (l0_2 : List Int) (A1 : Option Addr) (c1 : Nat) (l1 : List S37) (r : List Int) (w : World) (hr0_2 : Kd.C (Kd.int .i64) w A0_2 l0_2.length l0_2) (hc0_2 : l0_2.length ≤ c0_2) (hr1 : Kd.C k37 w A1 l1.length l1) (hc1 : l1.length ≤ c1) (h : impl_Step.f k a0_0 a0_1 l0_2 l1 = some r) :
  Calls Try.prog 42 #[.agg #[.int .i64 a0_0, .int .i64 a0_1, .slice A0_2 l0_2.length c0_2], .slice A1 l1.length c1] w fun e w' => ∃ v0_ : Value, e = .returned v0_ ∧ Kd.R (Kd.int .i64) 3 w' w.heap.size (fun _ => True) v0_ r ∧ Below w.heap.size w w' := by
 unfold impl_Step.f at h
 obtain ⟨b, hk, h⟩ := Option.bind_eq_some_iff.mp h
 cases b with
 | false =>
  rw [if_neg (by decide)] at h
  exact impl_Step.callsN k a0_0 a0_1 A0_2 c0_2 l0_2 A1 c1 l1 r w hr0_2 hc0_2 hr1 hc1 hk (Option.some.inj h).symm
 | true =>
  rw [if_pos rfl] at h
  by_cases h20 : l1.length ≤ 20
  {
  rw [if_pos h20] at h
  obtain ⟨ts, ht, h⟩ := Option.bind_eq_some_iff.mp h
  by_cases hts : ts.length ≤ 20
  {
  rw [if_pos hts] at h
  exact impl_Step.callsM k a0_0 a0_1 A0_2 c0_2 l0_2 A1 c1 l1 r w hr0_2 hc0_2 hr1 hc1 hk h20 ts ht hts h
  }
  {
  rw [if_neg hts] at h; cases h
  }
  }
  {
  rw [if_neg h20] at h; cases h
  }
end Go.Proofs.Ytankmdbbgepmbaa.PFnLively
