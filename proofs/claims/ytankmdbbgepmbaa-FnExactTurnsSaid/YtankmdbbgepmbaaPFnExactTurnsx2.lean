-- Made by a program of this session out of the translation. Lean checks it.
import Derived.Test.YtankmdbbgepmbaaPFnExactTurnsx0
namespace Go.Proofs.Ytankmdbbgepmbaa.PFnExactTurns
open Go.RowKit Go.Proofs.YtankmdbbgepmbaaW.PrintWords Go.Proofs.YtankmdbbgepmbaaW.PrintLast Go.Proofs.YtankmdbbgepmbaaW.PrintMore
attribute [local go_sem] max2_int min2_int max_two min_two max_three min_three max_four min_four   -- for this text's walks alone
set_option linter.unusedVariables false
set_option linter.unusedSimpArgs false

/-! ### impl_Turns: function 17 -/
def impl_TurnsL.T1 : Bool × List (List Nat × List Nat) := (true, [([], []), ([], []), ([], []), ([1, 2], [1, 2]), ([3], [3]), ([0, 4], [0, 4]), ([5], [5]), ([], []), ([], []), ([], []), ([8, 9], [8, 9]), ([10], [10]), ([7, 11], [7, 11]), ([12], [12]), ([], []), ([], []), ([14, 6, 0, 1, 2, 3, 4, 5, 6, 14, 15], [6, 14]), ([15, 13, 16, 0, 1, 2, 3, 4, 5, 6, 7, 8, 9, 10, 11, 12, 13, 14, 15, 16], [13, 15])])
def impl_TurnsL.B1 : List Nat := [0, 0, 0, 6, 14, 31, 63, 0, 0, 0, 768, 1792, 3968, 8064, 0, 0, 49279, 131071]
theorem impl_TurnsL.tab1 : rtab .any (opsOf Try.f55 1) = impl_TurnsL.T1 := by kernel_rfl
theorem impl_TurnsL.bits1 : waitsOk impl_TurnsL.T1.2 impl_TurnsL.B1 = true := by kernel_rfl
def turnsLt (l : List S37) (a b : Int) : Bool := decide ((rd_T37 l a).f4 > (rd_T37 l b).f4) || (decide ((rd_T37 l a).f4 = (rd_T37 l b).f4) && decide ((rd_T37 l a).f0 < (rd_T37 l b).f0))
set_option maxHeartbeats 8000000 in
set_option maxRecDepth 100000 in
theorem impl_TurnsL.calls (A0 : Option Addr) (c0 : Nat) (l0 : List S37) (W : World) (hr0 : Kd.C k37 W A0 l0.length l0) (b1 b2 g n c : Nat) (ia ib : Nat) (x y : Int) (hb1 : W.cell? ⟨b1, 0, none⟩ = some (.slice A0 l0.length c0)) (hb2 : W.cell? ⟨b2, 0, none⟩ = some (.slice (some ⟨g, 0, none⟩) n c))
  (hi : ia < n) (hj : ib < n) (hx : W.cell? ⟨g, ia, none⟩ = some (.int .i64 x)) (hy : W.cell? ⟨g, ib, none⟩ = some (.int .i64 y)) (hx0 : 0 ≤ x) (hx1 : x < (l0.length : Int)) (hy0 : 0 ≤ y) (hy1 : y < (l0.length : Int)) :
  Calls Try.prog 55 #[.int .i64 ia, .int .i64 ib, .pointer (some ⟨b1, 0, none⟩), .pointer (some ⟨b2, 0, none⟩)] W fun e w' => e = .returned (.bool (turnsLt l0 x y)) ∧ Below W.heap.size W w' := by
 have hu37 := Try.underlying37
 have hu24 := Try.underlying24
 have hu26 := Try.underlying26
 obtain ⟨adx, ex, x0, x1, x2, x3, x4⟩ := at_T37 hr0 x hx0 hx1
 obtain ⟨ady, ey, y0, y1, y2, y3, y4⟩ := at_T37 hr0 y hy0 hy1
 subst ex
 cases ey
 have hn0 : 0 < n := by omega
 have Hb1 := aM hb1
 have Hb2 := aM hb2
 have Hx := aM hx
 have Hy := aM hy
 have X0 := aM x0
 have Y0 := aM y0
 have X1 := aM x1
 have Y1 := aM y1
 have X2 := aM x2
 have Y2 := aM y2
 have X3 := aM x3
 have Y3 := aM y3
 have X4 := aM x4
 have Y4 := aM y4
 go_enter Try.func55, Try.ntmps55
 go_wp2
 refine start_ (n := 18) (S := fun w' => w'.cell? ⟨b1, 0, none⟩ = some (.slice (some adx) l0.length c0) ∧ w'.cell? ⟨b2, 0, none⟩ = some (.slice (some ⟨g, 0, none⟩) n c) ∧ w'.cell? ⟨g, ia, none⟩ = some (.int .i64 x) ∧ w'.cell? ⟨g, ib, none⟩ = some (.int .i64 y) ∧ w'.cell? (adx.add (x.toNat * 5)) = some (.int .i64 (rd_T37 l0 x).f0) ∧ w'.cell? ⟨(adx.add (x.toNat * 5)).block, (adx.add (x.toNat * 5)).off + 1, none⟩ = some (.int .i64 (rd_T37 l0 x).f1) ∧ w'.cell? ⟨(adx.add (x.toNat * 5)).block, (adx.add (x.toNat * 5)).off + 2, none⟩ = some (.int .i64 (rd_T37 l0 x).f2) ∧ w'.cell? ⟨(adx.add (x.toNat * 5)).block, (adx.add (x.toNat * 5)).off + 3, none⟩ = some (.bool (rd_T37 l0 x).f3) ∧ w'.cell? ⟨(adx.add (x.toNat * 5)).block, (adx.add (x.toNat * 5)).off + 4, none⟩ = some (.int .i64 (rd_T37 l0 x).f4) ∧ w'.cell? (adx.add (y.toNat * 5)) = some (.int .i64 (rd_T37 l0 y).f0) ∧ w'.cell? ⟨(adx.add (y.toNat * 5)).block, (adx.add (y.toNat * 5)).off + 1, none⟩ = some (.int .i64 (rd_T37 l0 y).f1) ∧ w'.cell? ⟨(adx.add (y.toNat * 5)).block, (adx.add (y.toNat * 5)).off + 2, none⟩ = some (.int .i64 (rd_T37 l0 y).f2) ∧ w'.cell? ⟨(adx.add (y.toNat * 5)).block, (adx.add (y.toNat * 5)).off + 3, none⟩ = some (.bool (rd_T37 l0 y).f3) ∧ w'.cell? ⟨(adx.add (y.toNat * 5)).block, (adx.add (y.toNat * 5)).off + 4, none⟩ = some (.int .i64 (rd_T37 l0 y).f4)) (ds := [17]) #[false, false, false, false, false, false, false, false, false, false, false, false, false, false, false, false, false, false] (by kernel_rfl) rfl rfl ⟨hb1, hb2, hx, hy, x0, x1, x2, x3, x4, y0, y1, y2, y3, y4⟩ (fun hHeld => ?_); refine with_tabW impl_TurnsL.tab1 impl_TurnsL.bits1 (fun HT_ HW_ => ?_)
 refine pI_ 2 11 (bqz 18 4) ?_
 refine jI_ 9 18 ?_
 refine sI14_ 0 9 ?_
 refine sI14_ 1 10 ?_
 refine jI_ 3 12 ?_
 refine sI14_ 4 13 ?_
 refine jI_ 5 14 ?_
 refine sI14_ 6 15 ?_
 refine sI14_ 7 16 ?_
 refine sI14_ 8 17 ?_
 refine jI_ 10 19 ?_
 refine sI14_ 11 20 ?_
 refine jI_ 12 21 ?_
 refine sI14_ 13 22 ?_
 have HB0 : Below W.heap.size W W.drew := below_drew (Below.refl _ _)
 refine two_ (i := 14) (j := 15) (Ni := some 7) (Nj := some 8) (bqz 18 32767) (bqz 18 49151) rfl rfl rfl rfl (two_of HT_.out (by kernel_rfl)) (by decide) (by decide) (fun K hK => ?_) (fun K hK => ?_)
 {
 have L0 : W.heap.size ≤ W.drew.heap.size := Nat.le_refl _
 refine box_step (by rfl) (N := 7) rfl (cs := #[.int .i64 0, .int .i64 0, .int .i64 0, .bool false, .int .i64 0]) (t := 37) ?hr ?_; (case hr => exact qz5); intro gx hgx w1 Bgx hb; have HB1 := below_step HB0 hb; clear hb
 refine hK.out _ _ ⟨pw_cell_below HB1 Hb1.out, pw_cell_below HB1 Hb2.out, pw_cell_below HB1 Hx.out, pw_cell_below HB1 Hy.out, pw_cell_below HB1 X0.out, pw_cell_below HB1 X1.out, pw_cell_below HB1 X2.out, pw_cell_below HB1 X3.out, pw_cell_below HB1 X4.out, pw_cell_below HB1 Y0.out, pw_cell_below HB1 Y1.out, pw_cell_below HB1 Y2.out, pw_cell_below HB1 Y3.out, pw_cell_below HB1 Y4.out⟩ (fun hHeld => ?_)
 clear hK K
 refine nm_ 7 ?_
 have Ggx := Nat.le_trans L0 (Nat.le_of_eq hgx.symm)
 refine oI_ 15 8 (bqz 18 65535) (fun K hK => ?_)
 have L1 := below_size HB1
 have bl_ := blk_lt Bgx
 refine box_step (by rfl) (N := 8) rfl (cs := #[.int .i64 0, .int .i64 0, .int .i64 0, .bool false, .int .i64 0]) (t := 37) ?hr ?_; (case hr => exact qz5); intro gy hgy w2 Bgy hb; have HB2 := below_step HB1 hb; replace Bgx := blk_below Bgx hb; clear hb
 refine hK.out _ _ ⟨pw_cell_below HB2 Hb1.out, pw_cell_below HB2 Hb2.out, pw_cell_below HB2 Hx.out, pw_cell_below HB2 Hy.out, pw_cell_below HB2 X0.out, pw_cell_below HB2 X1.out, pw_cell_below HB2 X2.out, pw_cell_below HB2 X3.out, pw_cell_below HB2 X4.out, pw_cell_below HB2 Y0.out, pw_cell_below HB2 Y1.out, pw_cell_below HB2 Y2.out, pw_cell_below HB2 Y3.out, pw_cell_below HB2 Y4.out⟩ (fun hHeld => ?_)
 clear hK K
 refine nm_ 8 ?_
 have Ggy := Nat.le_trans L1 (Nat.le_of_eq hgy.symm)
 have NE : gx ≠ gy := by omega
 have NE' : gy ≠ gx := by omega
 clear hgx hgy L0 L1 bl_ HB0 HB1
 have Fgx := fun k => blk_frozen Bgx k
 have gx0 := c5_0 Bgx
 have gfx0 := blk_frozen Bgx 0
 have gx1 := c5_1 Bgx
 have gfx1 := blk_frozen Bgx 1
 have gx2 := c5_2 Bgx
 have gfx2 := blk_frozen Bgx 2
 have gx3 := c5_3 Bgx
 have gfx3 := blk_frozen Bgx 3
 have gx4 := c5_4 Bgx
 have gfx4 := blk_frozen Bgx 4
 have Fgy := fun k => blk_frozen Bgy k
 have gy0 := c5_0 Bgy
 have gfy0 := blk_frozen Bgy 0
 have gy1 := c5_1 Bgy
 have gfy1 := blk_frozen Bgy 1
 have gy2 := c5_2 Bgy
 have gfy2 := blk_frozen Bgy 2
 have gy3 := c5_3 Bgy
 have gfy3 := blk_frozen Bgy 3
 have gy4 := c5_4 Bgy
 have gfy4 := blk_frozen Bgy 4
 refine one_ (i := 16) (N := none) (bqz 18 131071) rfl rfl qzc (by decide) (fun K hK => ?_)
 refine sk_ ?_
 have HB3 := below_put5 HB2 Ggx (.int .i64 (rd_T37 l0 x).f0) (.int .i64 (rd_T37 l0 x).f1) (.int .i64 (rd_T37 l0 x).f2) (.bool (rd_T37 l0 x).f3) (.int .i64 (rd_T37 l0 x).f4)
 have BX := blk_put5 Bgx (.int .i64 (rd_T37 l0 x).f0) (.int .i64 (rd_T37 l0 x).f1) (.int .i64 (rd_T37 l0 x).f2) (.bool (rd_T37 l0 x).f3) (.int .i64 (rd_T37 l0 x).f4)
 have BY := blk_far5 Bgy NE' (.int .i64 (rd_T37 l0 x).f0) (.int .i64 (rd_T37 l0 x).f1) (.int .i64 (rd_T37 l0 x).f2) (.bool (rd_T37 l0 x).f3) (.int .i64 (rd_T37 l0 x).f4)
 generalize (((((w2.setCell ⟨gx, 0, none⟩ (.int .i64 (rd_T37 l0 x).f0)).setCell ⟨gx, 1, none⟩ (.int .i64 (rd_T37 l0 x).f1)).setCell ⟨gx, 2, none⟩ (.int .i64 (rd_T37 l0 x).f2)).setCell ⟨gx, 3, none⟩ (.bool (rd_T37 l0 x).f3)).setCell ⟨gx, 4, none⟩ (.int .i64 (rd_T37 l0 x).f4)) = w3 at HB3 BX BY ⊢
 clear Bgx Bgy HB2 Fgx Fgy gx0 gfx0 gx1 gfx1 gx2 gfx2 gx3 gfx3 gx4 gfx4 gy0 gfy0 gy1 gfy1 gy2 gfy2 gy3 gfy3 gy4 gfy4
 refine hK.out _ _ ⟨pw_cell_below HB3 Hb1.out, pw_cell_below HB3 Hb2.out, pw_cell_below HB3 Hx.out, pw_cell_below HB3 Hy.out, pw_cell_below HB3 X0.out, pw_cell_below HB3 X1.out, pw_cell_below HB3 X2.out, pw_cell_below HB3 X3.out, pw_cell_below HB3 X4.out, pw_cell_below HB3 Y0.out, pw_cell_below HB3 Y1.out, pw_cell_below HB3 Y2.out, pw_cell_below HB3 Y3.out, pw_cell_below HB3 Y4.out⟩ (fun hHeld => ?_)
 clear hK K
 have gy0 := c5_0 BY
 have gfy0 := blk_frozen BY 0
 have gy1 := c5_1 BY
 have gfy1 := blk_frozen BY 1
 have gy2 := c5_2 BY
 have gfy2 := blk_frozen BY 2
 have gy3 := c5_3 BY
 have gfy3 := blk_frozen BY 3
 have gy4 := c5_4 BY
 have gfy4 := blk_frozen BY 4
 refine last_ (i := 17) (N := none) (bqz 18 262143) rfl rfl qzc (by decide) (fun K hK => ?_)
 refine sk_ ?_
 refine hK.out _ _ ?_
 clear hK K
 have HB4 := below_put5 HB3 Ggy (.int .i64 (rd_T37 l0 y).f0) (.int .i64 (rd_T37 l0 y).f1) (.int .i64 (rd_T37 l0 y).f2) (.bool (rd_T37 l0 y).f3) (.int .i64 (rd_T37 l0 y).f4)
 have CX := blk_far5 BX NE (.int .i64 (rd_T37 l0 y).f0) (.int .i64 (rd_T37 l0 y).f1) (.int .i64 (rd_T37 l0 y).f2) (.bool (rd_T37 l0 y).f3) (.int .i64 (rd_T37 l0 y).f4)
 have CY := blk_put5 BY (.int .i64 (rd_T37 l0 y).f0) (.int .i64 (rd_T37 l0 y).f1) (.int .i64 (rd_T37 l0 y).f2) (.bool (rd_T37 l0 y).f3) (.int .i64 (rd_T37 l0 y).f4)
 generalize (((((w3.setCell ⟨gy, 0, none⟩ (.int .i64 (rd_T37 l0 y).f0)).setCell ⟨gy, 1, none⟩ (.int .i64 (rd_T37 l0 y).f1)).setCell ⟨gy, 2, none⟩ (.int .i64 (rd_T37 l0 y).f2)).setCell ⟨gy, 3, none⟩ (.bool (rd_T37 l0 y).f3)).setCell ⟨gy, 4, none⟩ (.int .i64 (rd_T37 l0 y).f4)) = w4 at HB4 CX CY ⊢
 clear BX BY HB3 hHeld gy0 gfy0 gy1 gfy1 gy2 gfy2 gy3 gfy3 gy4 gfy4
 refine done_ (done_of HT_.out (by kernel_rfl)) ?_
 have gx0 := c5_0 CX
 have gx4 := c5_4 CX
 have gy0 := c5_0 CY
 have gy4 := c5_4 CY
 by_cases c1 : (rd_T37 l0 x).f4 > (rd_T37 l0 y).f4
 {
 have d1 : decide ((rd_T37 l0 x).f4 > (rd_T37 l0 y).f4) = true := decide_eq_true c1
 have R1 : turnsLt l0 x y = true := by unfold turnsLt; rw [d1]; rfl
 have HR := aM R1; clear R1 c1
 go_wp2
 go_ret
 exact ⟨by rw [HR.out]; rfl, HB4⟩
 }
 {
 have d1 : decide ((rd_T37 l0 x).f4 > (rd_T37 l0 y).f4) = false := decide_eq_false c1
 by_cases c2 : (rd_T37 l0 x).f4 = (rd_T37 l0 y).f4
 {
 have d2 : ((rd_T37 l0 x).f4 == (rd_T37 l0 y).f4) = true := by simpa using c2
 have R1 : turnsLt l0 x y = decide ((rd_T37 l0 x).f0 < (rd_T37 l0 y).f0) := by unfold turnsLt; rw [d1, decide_eq_true c2]; simp
 have HR := aM R1; clear R1 c1 c2
 go_wp2
 go_ret
 exact ⟨by rw [HR.out]; rfl, HB4⟩
 }
 {
 have d2 : ((rd_T37 l0 x).f4 == (rd_T37 l0 y).f4) = false := by simpa using c2
 have R1 : turnsLt l0 x y = false := by unfold turnsLt; rw [d1, decide_eq_false c2]; simp
 have HR := aM R1; clear R1 c1 c2
 go_wp2
 go_ret
 exact ⟨by rw [HR.out]; rfl, HB4⟩
 }
 }
 }
 {
 have L0 : W.heap.size ≤ W.drew.heap.size := Nat.le_refl _
 refine box_step (by rfl) (N := 8) rfl (cs := #[.int .i64 0, .int .i64 0, .int .i64 0, .bool false, .int .i64 0]) (t := 37) ?hr ?_; (case hr => exact qz5); intro gy hgy w1 Bgy hb; have HB1 := below_step HB0 hb; clear hb
 refine hK.out _ _ ⟨pw_cell_below HB1 Hb1.out, pw_cell_below HB1 Hb2.out, pw_cell_below HB1 Hx.out, pw_cell_below HB1 Hy.out, pw_cell_below HB1 X0.out, pw_cell_below HB1 X1.out, pw_cell_below HB1 X2.out, pw_cell_below HB1 X3.out, pw_cell_below HB1 X4.out, pw_cell_below HB1 Y0.out, pw_cell_below HB1 Y1.out, pw_cell_below HB1 Y2.out, pw_cell_below HB1 Y3.out, pw_cell_below HB1 Y4.out⟩ (fun hHeld => ?_)
 clear hK K
 refine nm_ 8 ?_
 have Ggy := Nat.le_trans L0 (Nat.le_of_eq hgy.symm)
 refine oI_ 14 7 (bqz 18 65535) (fun K hK => ?_)
 have L1 := below_size HB1
 have bl_ := blk_lt Bgy
 refine box_step (by rfl) (N := 7) rfl (cs := #[.int .i64 0, .int .i64 0, .int .i64 0, .bool false, .int .i64 0]) (t := 37) ?hr ?_; (case hr => exact qz5); intro gx hgx w2 Bgx hb; have HB2 := below_step HB1 hb; replace Bgy := blk_below Bgy hb; clear hb
 refine hK.out _ _ ⟨pw_cell_below HB2 Hb1.out, pw_cell_below HB2 Hb2.out, pw_cell_below HB2 Hx.out, pw_cell_below HB2 Hy.out, pw_cell_below HB2 X0.out, pw_cell_below HB2 X1.out, pw_cell_below HB2 X2.out, pw_cell_below HB2 X3.out, pw_cell_below HB2 X4.out, pw_cell_below HB2 Y0.out, pw_cell_below HB2 Y1.out, pw_cell_below HB2 Y2.out, pw_cell_below HB2 Y3.out, pw_cell_below HB2 Y4.out⟩ (fun hHeld => ?_)
 clear hK K
 refine nm_ 7 ?_
 have Ggx := Nat.le_trans L1 (Nat.le_of_eq hgx.symm)
 have NE : gx ≠ gy := by omega
 have NE' : gy ≠ gx := by omega
 clear hgx hgy L0 L1 bl_ HB0 HB1
 have Fgx := fun k => blk_frozen Bgx k
 have gx0 := c5_0 Bgx
 have gfx0 := blk_frozen Bgx 0
 have gx1 := c5_1 Bgx
 have gfx1 := blk_frozen Bgx 1
 have gx2 := c5_2 Bgx
 have gfx2 := blk_frozen Bgx 2
 have gx3 := c5_3 Bgx
 have gfx3 := blk_frozen Bgx 3
 have gx4 := c5_4 Bgx
 have gfx4 := blk_frozen Bgx 4
 have Fgy := fun k => blk_frozen Bgy k
 have gy0 := c5_0 Bgy
 have gfy0 := blk_frozen Bgy 0
 have gy1 := c5_1 Bgy
 have gfy1 := blk_frozen Bgy 1
 have gy2 := c5_2 Bgy
 have gfy2 := blk_frozen Bgy 2
 have gy3 := c5_3 Bgy
 have gfy3 := blk_frozen Bgy 3
 have gy4 := c5_4 Bgy
 have gfy4 := blk_frozen Bgy 4
 refine one_ (i := 16) (N := none) (bqz 18 131071) rfl rfl qzc (by decide) (fun K hK => ?_)
 refine sk_ ?_
 have HB3 := below_put5 HB2 Ggx (.int .i64 (rd_T37 l0 x).f0) (.int .i64 (rd_T37 l0 x).f1) (.int .i64 (rd_T37 l0 x).f2) (.bool (rd_T37 l0 x).f3) (.int .i64 (rd_T37 l0 x).f4)
 have BX := blk_put5 Bgx (.int .i64 (rd_T37 l0 x).f0) (.int .i64 (rd_T37 l0 x).f1) (.int .i64 (rd_T37 l0 x).f2) (.bool (rd_T37 l0 x).f3) (.int .i64 (rd_T37 l0 x).f4)
 have BY := blk_far5 Bgy NE' (.int .i64 (rd_T37 l0 x).f0) (.int .i64 (rd_T37 l0 x).f1) (.int .i64 (rd_T37 l0 x).f2) (.bool (rd_T37 l0 x).f3) (.int .i64 (rd_T37 l0 x).f4)
 generalize (((((w2.setCell ⟨gx, 0, none⟩ (.int .i64 (rd_T37 l0 x).f0)).setCell ⟨gx, 1, none⟩ (.int .i64 (rd_T37 l0 x).f1)).setCell ⟨gx, 2, none⟩ (.int .i64 (rd_T37 l0 x).f2)).setCell ⟨gx, 3, none⟩ (.bool (rd_T37 l0 x).f3)).setCell ⟨gx, 4, none⟩ (.int .i64 (rd_T37 l0 x).f4)) = w3 at HB3 BX BY ⊢
 clear Bgx Bgy HB2 Fgx Fgy gx0 gfx0 gx1 gfx1 gx2 gfx2 gx3 gfx3 gx4 gfx4 gy0 gfy0 gy1 gfy1 gy2 gfy2 gy3 gfy3 gy4 gfy4
 refine hK.out _ _ ⟨pw_cell_below HB3 Hb1.out, pw_cell_below HB3 Hb2.out, pw_cell_below HB3 Hx.out, pw_cell_below HB3 Hy.out, pw_cell_below HB3 X0.out, pw_cell_below HB3 X1.out, pw_cell_below HB3 X2.out, pw_cell_below HB3 X3.out, pw_cell_below HB3 X4.out, pw_cell_below HB3 Y0.out, pw_cell_below HB3 Y1.out, pw_cell_below HB3 Y2.out, pw_cell_below HB3 Y3.out, pw_cell_below HB3 Y4.out⟩ (fun hHeld => ?_)
 clear hK K
 have gy0 := c5_0 BY
 have gfy0 := blk_frozen BY 0
 have gy1 := c5_1 BY
 have gfy1 := blk_frozen BY 1
 have gy2 := c5_2 BY
 have gfy2 := blk_frozen BY 2
 have gy3 := c5_3 BY
 have gfy3 := blk_frozen BY 3
 have gy4 := c5_4 BY
 have gfy4 := blk_frozen BY 4
 refine last_ (i := 17) (N := none) (bqz 18 262143) rfl rfl qzc (by decide) (fun K hK => ?_)
 refine sk_ ?_
 refine hK.out _ _ ?_
 clear hK K
 have HB4 := below_put5 HB3 Ggy (.int .i64 (rd_T37 l0 y).f0) (.int .i64 (rd_T37 l0 y).f1) (.int .i64 (rd_T37 l0 y).f2) (.bool (rd_T37 l0 y).f3) (.int .i64 (rd_T37 l0 y).f4)
 have CX := blk_far5 BX NE (.int .i64 (rd_T37 l0 y).f0) (.int .i64 (rd_T37 l0 y).f1) (.int .i64 (rd_T37 l0 y).f2) (.bool (rd_T37 l0 y).f3) (.int .i64 (rd_T37 l0 y).f4)
 have CY := blk_put5 BY (.int .i64 (rd_T37 l0 y).f0) (.int .i64 (rd_T37 l0 y).f1) (.int .i64 (rd_T37 l0 y).f2) (.bool (rd_T37 l0 y).f3) (.int .i64 (rd_T37 l0 y).f4)
 generalize (((((w3.setCell ⟨gy, 0, none⟩ (.int .i64 (rd_T37 l0 y).f0)).setCell ⟨gy, 1, none⟩ (.int .i64 (rd_T37 l0 y).f1)).setCell ⟨gy, 2, none⟩ (.int .i64 (rd_T37 l0 y).f2)).setCell ⟨gy, 3, none⟩ (.bool (rd_T37 l0 y).f3)).setCell ⟨gy, 4, none⟩ (.int .i64 (rd_T37 l0 y).f4)) = w4 at HB4 CX CY ⊢
 clear BX BY HB3 hHeld gy0 gfy0 gy1 gfy1 gy2 gfy2 gy3 gfy3 gy4 gfy4
 refine done_ (done_of HT_.out (by kernel_rfl)) ?_
 have gx0 := c5_0 CX
 have gx4 := c5_4 CX
 have gy0 := c5_0 CY
 have gy4 := c5_4 CY
 by_cases c1 : (rd_T37 l0 x).f4 > (rd_T37 l0 y).f4
 {
 have d1 : decide ((rd_T37 l0 x).f4 > (rd_T37 l0 y).f4) = true := decide_eq_true c1
 have R1 : turnsLt l0 x y = true := by unfold turnsLt; rw [d1]; rfl
 have HR := aM R1; clear R1 c1
 go_wp2
 go_ret
 exact ⟨by rw [HR.out]; rfl, HB4⟩
 }
 {
 have d1 : decide ((rd_T37 l0 x).f4 > (rd_T37 l0 y).f4) = false := decide_eq_false c1
 by_cases c2 : (rd_T37 l0 x).f4 = (rd_T37 l0 y).f4
 {
 have d2 : ((rd_T37 l0 x).f4 == (rd_T37 l0 y).f4) = true := by simpa using c2
 have R1 : turnsLt l0 x y = decide ((rd_T37 l0 x).f0 < (rd_T37 l0 y).f0) := by unfold turnsLt; rw [d1, decide_eq_true c2]; simp
 have HR := aM R1; clear R1 c1 c2
 go_wp2
 go_ret
 exact ⟨by rw [HR.out]; rfl, HB4⟩
 }
 {
 have d2 : ((rd_T37 l0 x).f4 == (rd_T37 l0 y).f4) = false := by simpa using c2
 have R1 : turnsLt l0 x y = false := by unfold turnsLt; rw [d1, decide_eq_false c2]; simp
 have HR := aM R1; clear R1 c1 c2
 go_wp2
 go_ret
 exact ⟨by rw [HR.out]; rfl, HB4⟩
 }
 }
 }
def impl_Turns.T5 : Bool × List (List Nat × List Nat) := (true, [([], []), ([], []), ([1], [1]), ([0, 2], [0, 2]), ([3, 3, 0, 1, 2, 3], [3])])
def impl_Turns.B5 : List Nat := [0, 0, 2, 7, 15]
theorem impl_Turns.tab5 : rtab .any (opsOf Try.f17 5) = impl_Turns.T5 := by kernel_rfl
theorem impl_Turns.bits5 : waitsOk impl_Turns.T5.2 impl_Turns.B5 = true := by kernel_rfl
def impl_Turns.T7 : Bool × List (List Nat × List Nat) := (true, [([], []), ([0], [0]), ([], []), ([1, 2], [1, 2])])
def impl_Turns.B7 : List Nat := [0, 1, 0, 7]
theorem impl_Turns.tab7 : rtab .any (opsOf Try.f17 7) = impl_Turns.T7 := by kernel_rfl
theorem impl_Turns.bits7 : waitsOk impl_Turns.T7.2 impl_Turns.B7 = true := by kernel_rfl
def upto (n : Nat) : List Int := (List.range n).map (fun i : Nat => (i : Int))
theorem upto_succ (n : Nat) : upto (n + 1) = upto n ++ [(n : Int)] := by simp [upto, List.range_succ]
theorem upto_length (n : Nat) : (upto n).length = n := by simp [upto]
theorem upto_mem {n : Nat} {x : Int} (h : x ∈ upto n) : 0 ≤ x ∧ x < (n : Int) := by
 obtain ⟨i, hi, rfl⟩ := List.mem_map.1 h
 have := List.mem_range.1 hi
 omega
def turnsR (l : List S37) (a b : Int) : Prop := turnsLt l a b = true ∨ (turnsLt l b a = false ∧ a < b)
theorem turnsLt_y (l : List S37) (a b : Int) : turnsLt l a b = true ↔ (rd_T37 l a).f4 > (rd_T37 l b).f4 ∨ ((rd_T37 l a).f4 = (rd_T37 l b).f4 ∧ (rd_T37 l a).f0 < (rd_T37 l b).f0) := by
 unfold turnsLt
 rw [Bool.or_eq_true, Bool.and_eq_true, decide_eq_true_eq, decide_eq_true_eq, decide_eq_true_eq]
theorem turnsLt_n (l : List S37) (a b : Int) : turnsLt l a b = false ↔ ¬ ((rd_T37 l a).f4 > (rd_T37 l b).f4 ∨ ((rd_T37 l a).f4 = (rd_T37 l b).f4 ∧ (rd_T37 l a).f0 < (rd_T37 l b).f0)) := by
 rw [← turnsLt_y, Bool.not_eq_true]
theorem turns_ord (l : List S37) : SortLoose.Ord (turnsR l) := by
 refine ⟨fun x y z h1 h2 => ?_, fun x h => ?_⟩
 {
 unfold turnsR at *
 rw [turnsLt_y, turnsLt_n] at *
 omega
 }
 {
 unfold turnsR at h
 rw [turnsLt_y, turnsLt_n] at h
 omega
 }
theorem turns_fair (l : List S37) : SortLoose.Fair (turnsR l) (turnsLt l) (upto l.length).toArray 0 (upto l.length).length := fun i j _ hij hj => by
 have g : ∀ k, k < (upto l.length).length → (upto l.length).toArray[k]! = (k : Int) := fun k hk => by
  rw [getElem!_def]
  simp only [upto, List.length_map, List.length_range] at hk
  simp [upto, hk]
 rw [g i (by omega), g j hj]
 unfold turnsR
 cases h : turnsLt l (j : Int) (i : Int) with
 | true => exact .inl ⟨rfl, .inl rfl⟩
 | false => exact .inr ⟨rfl, .inr ⟨rfl, by omega⟩⟩
def impl_Turns.f (l0 : List S37) : Option (List Int) := if l0.length ≤ 1048576 then some (sortL (turnsLt l0) (upto l0.length)) else none
set_option maxHeartbeats 8000000 in
set_option maxRecDepth 100000 in
theorem impl_Turns.calls (A0 : Option Addr) (c0 : Nat) (l0 : List S37) (r : List Int) (w : World) (hr0 : Kd.C k37 w A0 l0.length l0) (hc0 : l0.length ≤ c0) (h : impl_Turns.f l0 = some r) :
  Calls Try.prog 17 #[.slice A0 l0.length c0] w fun e w' => ∃ v0_ : Value, e = .returned v0_ ∧ Kd.R (Kd.int .i64) 3 w' w.heap.size (fun _ => True) v0_ r ∧ Below w.heap.size w w' := by
 have hu24 := Try.underlying24
 have hu26 := Try.underlying26
 have hl20 : l0.length ≤ 1048576 := by
  unfold impl_Turns.f at h
  split at h
  {
  assumption
  }
  {
  cases h
  }
 have hr : r = sortL (turnsLt l0) (upto l0.length) := by unfold impl_Turns.f at h; rw [if_pos hl20] at h; exact (Option.some.inj h).symm
 have HRR := aM hr
 have HR0 := aM hr0
 have HC0 := aM hc0
 have HL := aM hl20
 clear hr hr0 hc0 hl20 h
 have HB := aM (Below.refl w.heap.size w)
 go_enter Try.func17, Try.ntmps17
 go_wp2_with (first
  | ((with_reducible refine gate_dst (N := 1) rfl ?_); refine box_event rfl (N := 1) rfl (cs := #[.slice A0 l0.length c0]) (t := 26) ?hr ?_; (case hr => exact qz5); intro b1 hg w1 hbx hb; have BK1 := aM hbx; have GB1 := aM (Nat.le_of_eq hg.symm : w.heap.size ≤ b1); replace HB := aM (below_step HB.out hb); have hbl := blk_lt hbx; have hc1 : w1.cell? ⟨b1, 0, none⟩ = some (.slice A0 l0.length c0) := (blk_cell hbx 0).trans rfl; clear hb hbx hg)
  | ((with_reducible refine gate_dst (N := 3) rfl ?_); refine box_event rfl (N := 3) rfl (cs := #[.slice none 0 0]) (t := 24) ?hr ?_; (case hr => exact qz5); intro b2 hg w2 hbx hb; have BK2 := aM hbx; have NE := aM (show b1 ≠ b2 from by omega); have GB2 := aM (Nat.le_trans (below_size HB.out) (Nat.le_of_eq hg.symm) : w.heap.size ≤ b2); replace HB := aM (below_step HB.out hb); replace BK1 := aM (blk_below BK1.out hb); replace hc1 : w2.cell? ⟨b1, 0, none⟩ = some (.slice A0 l0.length c0) := (blk_cell BK1.out 0).trans rfl; clear hb hbx hg hbl))
 go_loopw [7] (fun v7 w' => ∃ (i : Nat) (v : Value), v7 = .int .i64 i ∧ i ≤ l0.length ∧ Aside0 (w'.heap[b2]? = some (.cells #[v] 24 (0, 0))) ∧ Aside0 (Kd.R (Kd.int .i64) 3 w' w.heap.size (fun k => k ≠ b1 ∧ k ≠ b2) v (upto i)) ∧ Aside0 (w'.heap[b1]? = some (.cells #[.slice A0 l0.length c0] 26 (0, 0))) ∧ Aside0 (Below w.heap.size w w')) (fun v7 _ => l0.length - (intOf v7).toNat)
 case atStart => exact ⟨0, _, rfl, Nat.zero_le _, BK2, ⟨Kd.R_nil _ _ _ _ _⟩, BK1, HB⟩
 case round =>
 clear HB BK1 BK2 hc1
 obtain ⟨i, v, rfl, hi, BK2, HO, BK1, HB⟩ := hrel
 obtain ⟨A2, c2, rfl⟩ := Kd.R_slice HO.out
 have hl1 := blk_lt BK1.out
 have hl2 := blk_lt BK2.out
 have HLT := aM (And.intro hl1 hl2)
 have HI := aM hi
 clear hl1 hl2 hi
 have hn2 := upto_length i
 have HN2 := aM hn2
 clear hn2
 by_cases hlt : i < l0.length
 {
 have LMi : (upto i).length + 1 ≤ 1048577 := by have := HN2.out; have := HL.out; omega
 have hd : decide ((i : Int) < (l0.length : Int)) = true := decide_eq_true (by omega)
 have h20 : (i : Int) < 1048576 := by have := HL.out; omega
 have hc2 : wr.cell? ⟨b2, 0, none⟩ = some (.slice A2 (upto i).length c2) := (blk_cell BK2.out 0).trans rfl
 have LM := aM LMi
 clear LMi
 go_wp2_with (first
  | ((with_reducible refine gate_builtin (b := .append) (xs := #[.tmp 10, .tmp 12]) rfl ?_); at_builtin; refine Kd.R_append (Kd.int .i64) (w0 := w) w.heap.size rfl (.tmp 10) (.tmp 12) 24 3 (.int .i64 0) 8 rfl Try.underlying24 info3 rfl (by decide) (by omega) (.slice A2 (upto i).length c2) (upto i) (i : Int) [.int .i64 (i : Int)] (fun k => k ≠ b1 ∧ k ≠ b2) (fun _ => False) rfl rfl ?aP (fun _ hk => hk.elim) ?aF ?aO ?aB ?aS ?aL ?_; (case aP => exact rfl); (case aB => exact HB.out); (case aF => exact (fun k hk => ⟨by have := HLT.out.1; omega, by have := HLT.out.2; omega⟩)); (case aO => exact HO.out); (case aS => exact below_size HB.out); (case aL => have := LM.out; omega); intro v1 w3 ho hb hg hat; obtain ⟨A3, c3, rfl⟩ := Kd.R_slice ho; replace HB := aM hb; replace BK1 := aM (blk_grown BK1.out hg (fun e => (HO.out.1 b1 e.symm).1 rfl)); replace BK2 := aM (blk_grown BK2.out hg (fun e => (HO.out.1 b2 e.symm).2 rfl)); have HO3 := aM ho; clear HO ho hb hg hat hc2; have hf2 := blk_frozen BK2.out 0; have hc2 : w3.cell? ⟨b2, 0, none⟩ = some (.slice A2 (upto i).length c2) := (blk_cell BK2.out 0).trans rfl))
 go_roundw
 case rel => 
  have e_ : (upto i ++ [(i : Int)]).length = (upto i).length + 1 := by simp
  have h3 := HO3.out
  rw [e_] at h3
  refine ⟨i + 1, _, by go_num, by omega, ⟨blk_put BK2.out 0 _ rfl⟩, ⟨?_⟩, ⟨blk_far BK1.out NE.out _⟩, ⟨below_set HB.out GB2.out⟩⟩
  rw [upto_succ]
  exact Kd.R_far h3 (p := ⟨b2, 0, none⟩) (fun k hk => hk.2) _
 case measure => simp [intOf]; omega
 }
 {
 obtain rfl : i = l0.length := by have := HI.out; omega
 have hd : decide ((l0.length : Int) < (l0.length : Int)) = false := decide_eq_false (by omega)
 have hc2 : wr.cell? ⟨b2, 0, none⟩ = some (.slice A2 (upto l0.length).length c2) := (blk_cell BK2.out 0).trans rfl
 have hmi : ∀ (W : World), (Instr.makeInterface 24 (.slice A2 (upto l0.length).length c2)).run Try.prog W = .ok (.iface 24 (.slice A2 (upto l0.length).length c2)) W := fun _ => by kernel_rfl
 have hmf : ∀ (fn : Fn) (first cap : Array Value) (w : World), (Instr.makeFunc fn first cap).run Try.prog w = .ok (.func fn first cap) w := fun _ _ _ _ => rfl
 have hS := sort_any (fun x => 0 ≤ x ∧ x < (l0.length : Int)) (turnsLt l0) (turnsR l0) (turns_ord l0) 55 #[.pointer (some ⟨b1, 0, none⟩), .pointer (some ⟨b2, 0, none⟩)] (enters_of Try.func55 (by kernel_rfl) rfl) A2 (upto l0.length).length c2 (upto l0.length) w.heap.size _ (by have := HN2.out; have := HL.out; omega) (turns_fair l0) wr HO.out (fun x hx => upto_mem hx)
  (fun blk e W dk hl hs i j hi hj => by
   subst e
   have hb := HO.out.1 blk rfl
   have e1 := hl.gr.block b1 HLT.out.1 (by intro e; injection e with e; exact hb.1 e.symm)
   have e2 := hl.gr.block b2 HLT.out.2 (by intro e; injection e with e; exact hb.2 e.symm)
   have hi' : i < dk.size := by rw [hs]; exact hi
   have hj' : j < dk.size := by rw [hs]; exact hj
   have hx := (hl.ho i hi').1
   have hy := (hl.ho j hj').1
   rw [Nat.zero_add] at hx hy
   exact impl_TurnsL.calls A0 c0 l0 W (Kd.C_below HR0.out (pw_below_grown HB.out _ (below_size HB.out) hl.gr (Kd.R_base HO.out))) b1 b2 blk _ c2 i j dk[i]! dk[j]! ((blk_cell (e1.trans BK1.out) 0).trans rfl) ((blk_cell (e2.trans BK2.out) 0).trans rfl) hi hj hx hy (hl.al i hi').1 (hl.al i hi').2 (hl.al j hj').1 (hl.al j hj').2)
 have HS := aM hS
 clear hS
 go_wp2_with (go_at_call 54; refine HS.out.mono ?_; rintro e w3 ⟨rfl, hR, hG⟩; have HR3 := aM hR; have BK3 := aM (blk_grown BK2.out hG (fun e => (HO.out.1 b2 e.symm).2 rfl)); have HB3 := aM (pw_below_grown HB.out _ (below_size HB.out) hG (Kd.R_base HO.out)); clear hR hG hc2; have hc3 : w3.cell? ⟨b2, 0, none⟩ = some (.slice A2 (upto l0.length).length c2) := (blk_cell BK3.out 0).trans rfl)
 go_ret
 refine ⟨_, rfl, ?_, ?_⟩
 {
 rw [HRR.out]; exact Kd.R_mono HR3.out (fun _ _ => trivial)
 }
 {
 exact HB3.out
 }
 }
/-! ### laws_eqIntS: function 18 -/
def laws_eqIntS.l0 : Nat → List Int → List Int → Int → Option (Bool)
 | 0, _, _, _ => none
 | k + 1, x0, x1, x5 => if x5 < (x0.length : Int) then (if 0 ≤ x5 then (if x5 < (x1.length : Int) then (if (rd x0 x5) = (rd x1 x5) then (laws_eqIntS.l0 k x0 x1 (wrap64 (x5 + 1))) else (some false)) else (none)) else (none)) else (some true)
def laws_eqIntS.f (k : Nat) (l0 : List Int) (l1 : List Int) : Option (Bool) := if (l0.length : Int) = (l1.length : Int) then (laws_eqIntS.l0 k l0 l1 0) else (some false)
theorem laws_eqIntS.mono_l : ∀ k, (∀ y0 y1 y2, LeO (laws_eqIntS.l0 k y0 y1 y2) (laws_eqIntS.l0 (k + 1) y0 y1 y2))
 | 0 => fun _ _ _ r h => by simp [laws_eqIntS.l0] at h
 | k + 1 => by
  have ih0 := laws_eqIntS.mono_l k
  {
  intro y0 y1 y2
  unfold laws_eqIntS.l0
  exact qL
  }
theorem laws_eqIntS.mono : ∀ a0 a1 k, LeO (laws_eqIntS.f k a0 a1) (laws_eqIntS.f (k + 1) a0 a1) := by
 intro a0 a1 k
 have ih0 := laws_eqIntS.mono_l k
 unfold laws_eqIntS.f
 exact qL
set_option maxHeartbeats 8000000 in
set_option maxRecDepth 100000 in
theorem laws_eqIntS.calls (k : Nat) (A0 : Option Addr) (c0 : Nat) (l0 : List Int) (A1 : Option Addr) (c1 : Nat) (l1 : List Int) (r : Bool) (w : World) (hr0 : Kd.C (Kd.int .i64) w A0 l0.length l0) (hc0 : l0.length ≤ c0) (hr1 : Kd.C (Kd.int .i64) w A1 l1.length l1) (hc1 : l1.length ≤ c1) (h : laws_eqIntS.f k l0 l1 = some r) :
  Calls Try.prog 18 #[.slice A0 l0.length c0, .slice A1 l1.length c1] w fun e w' => e = .returned (.bool r) ∧ Drawn0 w w' := by
 have HR0 := aM hr0
 have HC0 := aM hc0
 clear hr0 hc0
 have HR1 := aM hr1
 have HC1 := aM hc1
 clear hr1 hc1
 unfold laws_eqIntS.f at h
 have H := h
 clear h
 replace H := iS_ H
 rcases H with ⟨c3, H⟩ | ⟨c3, H⟩
 {
 have c3b0 := beq_iff_eq.mpr c3
 have c3b1 := bne_eq_false_iff_eq.mpr c3
 have c3b2 : (l0.length == l1.length) = true := by first | simpa using c3 | (simp at c3 ⊢; omega)
 clear c3
 have H' := aM H
 clear H
 go_enter Try.func18, Try.ntmps18
 go_wp2
 repeat (go_quiet (fail); try go_wp2)
 go_loopg [5] k (fun kq v5 w' => ∃ (x5_1 : Int), v5 = .int .i64 x5_1 ∧ Aside0 (laws_eqIntS.l0 kq l0 l1 x5_1 = some r) ∧ Aside0 (kq ≤ k) ∧ Drawn0 w w')
 case atStart => exact ⟨(0), qz4, H', ⟨Nat.le_refl _⟩, by repeat (first | exact Drawn0.refl _ | apply Drawn0.step)⟩
 case round =>
 clear H'
 try clear c1
 try clear c3
 try clear c3b0
 try clear c3b1
 try clear c3b2
 obtain ⟨x5_1, rfl, HA, HK1, ⟨m1, rfl⟩⟩ := hrel
 cases gk with
 | zero => exact absurd HA.out (by simp [laws_eqIntS.l0])
 | succ k1 =>
 have H := HA.out
 clear HA
 simp only [laws_eqIntS.l0] at H
 replace H := iE_ H
 rcases H with ⟨c4b0, H⟩ | ⟨c4b0, H⟩
 {
 replace H := iD_ H
 obtain ⟨c5b0, H⟩ := H
 replace H := iD_ H
 obtain ⟨c6b0, H⟩ := H
 replace H := iQ_ H
 rcases H with ⟨c7b0, c7b1, H⟩ | ⟨c7, c7b0, c7b1, H⟩
 {
 have H' := aM H
 clear H
 have p136 : (0 ≤ (x5_1 : Int)) = True := et_
 have q136 : (x5_1 < (l0.length : Int)) = True := et_
 obtain ⟨ad136, e136, hx136_0⟩ := Kd.at_int HR0.out x5_1 dt_ dt_
 cases e136
 have p137 : (0 ≤ (x5_1 : Int)) = True := et_
 have q137 : (x5_1 < (l1.length : Int)) = True := et_
 obtain ⟨ad137, e137, hx137_0⟩ := Kd.at_int HR1.out x5_1 dt_ dt_
 cases e137
 go_wp2
 repeat (go_quiet (fail); try go_wp2)
 go_roundg k1
 case measure => have := HK1.out; omega
 case rel => exact ⟨(wrap64 (x5_1 + 1)), qz4, H', ⟨by have := HK1.out; omega⟩, by repeat (first | exact Drawn0.refl _ | apply Drawn0.step)⟩
 }
 {
 obtain rfl := Option.some.inj H
 have p136 : (0 ≤ (x5_1 : Int)) = True := et_
 have q136 : (x5_1 < (l0.length : Int)) = True := et_
 obtain ⟨ad136, e136, hx136_0⟩ := Kd.at_int HR0.out x5_1 dt_ dt_
 cases e136
 have p137 : (0 ≤ (x5_1 : Int)) = True := et_
 have q137 : (x5_1 < (l1.length : Int)) = True := et_
 obtain ⟨ad137, e137, hx137_0⟩ := Kd.at_int HR1.out x5_1 dt_ dt_
 cases e137
 go_wp2
 repeat (go_quiet (fail); try go_wp2)
 go_ret
 exact ⟨by first | rfl | (simp; done) | (simp [*]; done), by repeat (first | exact Drawn0.refl _ | apply Drawn0.step)⟩
 }
 }
 {
 obtain rfl := Option.some.inj H
 go_wp2
 repeat (go_quiet (fail); try go_wp2)
 go_ret
 exact ⟨by first | rfl | (simp; done) | (simp [*]; done), by repeat (first | exact Drawn0.refl _ | apply Drawn0.step)⟩
 }
 }
 {
 have c3b0 := beq_eq_false_iff_ne.mpr c3
 have c3b1 := bne_iff_ne.mpr c3
 have c3b2 : (l0.length == l1.length) = false := by first | simpa using c3 | (simp at c3 ⊢; omega)
 obtain rfl := Option.some.inj H
 go_enter Try.func18, Try.ntmps18
 go_wp2
 repeat (go_quiet (fail); try go_wp2)
 go_ret
 exact ⟨by first | rfl | (simp; done) | (simp [*]; done), by repeat (first | exact Drawn0.refl _ | apply Drawn0.step)⟩
 }
/-! ### laws_eqRobot: function 56 -/
def laws_eqRobot.f (a0_0 : Int) (a0_1 : Int) (a0_2 : Int) (a0_3 : Bool) (a0_4 : Int) (a1_0 : Int) (a1_1 : Int) (a1_2 : Int) (a1_3 : Bool) (a1_4 : Int) : Option (Bool) := if a0_0 = a1_0 then (if a0_1 = a1_1 then (if a0_2 = a1_2 then (if (a0_3 != a1_3) = true then (some false) else (if a0_4 = a1_4 then (some true) else (some false))) else (some false)) else (some false)) else (some false)
set_option maxHeartbeats 8000000 in
set_option maxRecDepth 100000 in
theorem laws_eqRobot.calls (a0_0 : Int) (a0_1 : Int) (a0_2 : Int) (a0_3 : Bool) (a0_4 : Int) (a1_0 : Int) (a1_1 : Int) (a1_2 : Int) (a1_3 : Bool) (a1_4 : Int) (r : Bool) (w : World) (h : laws_eqRobot.f a0_0 a0_1 a0_2 a0_3 a0_4 a1_0 a1_1 a1_2 a1_3 a1_4 = some r) :
  Calls Try.prog 56 #[.agg #[.int .i64 a0_0, .int .i64 a0_1, .int .i64 a0_2, .bool a0_3, .int .i64 a0_4], .agg #[.int .i64 a1_0, .int .i64 a1_1, .int .i64 a1_2, .bool a1_3, .int .i64 a1_4]] w fun e w' => e = .returned (.bool r) ∧ Below w.heap.size w w' := by
 have hu37 := Try.underlying37
 have HB := aM (Below.refl w.heap.size w)
 unfold laws_eqRobot.f at h
 have H := h
 clear h
 replace H := iQ_ H
 rcases H with ⟨c3b0, c3b1, H⟩ | ⟨c3, c3b0, c3b1, H⟩
 {
 replace H := iQ_ H
 rcases H with ⟨c4b0, c4b1, H⟩ | ⟨c4, c4b0, c4b1, H⟩
 {
 replace H := iQ_ H
 rcases H with ⟨c5b0, c5b1, H⟩ | ⟨c5, c5b0, c5b1, H⟩
 {
 replace H := iS_ H
 rcases H with ⟨c6, H⟩ | ⟨c6, H⟩
 {
 have c6b0 : (a0_3 != a1_3) = true := c6
 (try (have c6b1 : decide (a0_3 = a1_3) = false := by simpa using c6))
 (try (have c6b2 : (a0_3 == a1_3) = false := by simpa using c6))
 (try (have c6b3 : ¬ (a0_3 = a1_3) := by simpa using c6))
 clear c6
 obtain rfl := Option.some.inj H
 go_enter Try.func56, Try.ntmps56
 go_wp2_with (first | ((with_reducible refine gate_dst (N := 2) rfl ?_); refine bx_ 2 #[.int .i64 a0_0, .int .i64 a0_1, .int .i64 a0_2, .bool a0_3, .int .i64 a0_4] 37 ?_; intro gb138 hg w7 hbox hb; have BK138 := aM (hbox); have GW138 := aM (bz_ w hg qz1); have GE138 := GW138; replace HB := bS_ hb; clear hb hbox hg) | ((with_reducible refine gate_dst (N := 3) rfl ?_); refine bx_ 3 #[.int .i64 a1_0, .int .i64 a1_1, .int .i64 a1_2, .bool a1_3, .int .i64 a1_4] 37 ?_; intro gb139 hg w8 hbox hb; have BK139 := aM (hbox); have GW139 := aM (bz_ w hg qz1); have GE139 := GW139; replace HB := bS_ hb; obtain ⟨NB138_139, NB139_138⟩ := nb_ hg (bk_ BK138.out); replace BK138 := bB_ BK138 hb; clear hb hbox hg; have hnb9 := NB138_139.out; have hnc9 := NB139_138.out; obtain ⟨hcz10_0, hcz10_1, hcz10_2, hcz10_3, hcz10_4, hfz10_0, hfz10_1, hfz10_2, hfz10_3, hfz10_4⟩ := b10_ BK138.out; obtain ⟨hcz11_0, hcz11_1, hcz11_2, hcz11_3, hcz11_4, hfz11_0, hfz11_1, hfz11_2, hfz11_3, hfz11_4⟩ := b10_ BK139.out))
 go_ret
 exact ⟨qzw, qz1⟩
 }
 {
 have c6b0 : (a0_3 != a1_3) = false := by simpa using c6
 (try (have c6b1 : decide (a0_3 = a1_3) = true := by simpa using c6))
 (try (have c6b2 : (a0_3 == a1_3) = true := by simpa using c6))
 clear c6
 replace H := iQ_ H
 rcases H with ⟨c12b0, c12b1, H⟩ | ⟨c12, c12b0, c12b1, H⟩
 {
 obtain rfl := Option.some.inj H
 go_enter Try.func56, Try.ntmps56
 go_wp2_with (first | ((with_reducible refine gate_dst (N := 2) rfl ?_); refine bx_ 2 #[.int .i64 a0_0, .int .i64 a0_1, .int .i64 a0_2, .bool a0_3, .int .i64 a0_4] 37 ?_; intro gb138 hg w13 hbox hb; have BK138 := aM (hbox); have GW138 := aM (bz_ w hg qz1); have GE138 := GW138; replace HB := bS_ hb; clear hb hbox hg) | ((with_reducible refine gate_dst (N := 3) rfl ?_); refine bx_ 3 #[.int .i64 a1_0, .int .i64 a1_1, .int .i64 a1_2, .bool a1_3, .int .i64 a1_4] 37 ?_; intro gb139 hg w14 hbox hb; have BK139 := aM (hbox); have GW139 := aM (bz_ w hg qz1); have GE139 := GW139; replace HB := bS_ hb; obtain ⟨NB138_139, NB139_138⟩ := nb_ hg (bk_ BK138.out); replace BK138 := bB_ BK138 hb; clear hb hbox hg; have hnb15 := NB138_139.out; have hnc15 := NB139_138.out; obtain ⟨hcz16_0, hcz16_1, hcz16_2, hcz16_3, hcz16_4, hfz16_0, hfz16_1, hfz16_2, hfz16_3, hfz16_4⟩ := b10_ BK138.out; obtain ⟨hcz17_0, hcz17_1, hcz17_2, hcz17_3, hcz17_4, hfz17_0, hfz17_1, hfz17_2, hfz17_3, hfz17_4⟩ := b10_ BK139.out))
 go_ret
 exact ⟨qzw, qz1⟩
 }
 {
 obtain rfl := Option.some.inj H
 go_enter Try.func56, Try.ntmps56
 go_wp2_with (first | ((with_reducible refine gate_dst (N := 2) rfl ?_); refine bx_ 2 #[.int .i64 a0_0, .int .i64 a0_1, .int .i64 a0_2, .bool a0_3, .int .i64 a0_4] 37 ?_; intro gb138 hg w18 hbox hb; have BK138 := aM (hbox); have GW138 := aM (bz_ w hg qz1); have GE138 := GW138; replace HB := bS_ hb; clear hb hbox hg) | ((with_reducible refine gate_dst (N := 3) rfl ?_); refine bx_ 3 #[.int .i64 a1_0, .int .i64 a1_1, .int .i64 a1_2, .bool a1_3, .int .i64 a1_4] 37 ?_; intro gb139 hg w19 hbox hb; have BK139 := aM (hbox); have GW139 := aM (bz_ w hg qz1); have GE139 := GW139; replace HB := bS_ hb; obtain ⟨NB138_139, NB139_138⟩ := nb_ hg (bk_ BK138.out); replace BK138 := bB_ BK138 hb; clear hb hbox hg; have hnb20 := NB138_139.out; have hnc20 := NB139_138.out; obtain ⟨hcz21_0, hcz21_1, hcz21_2, hcz21_3, hcz21_4, hfz21_0, hfz21_1, hfz21_2, hfz21_3, hfz21_4⟩ := b10_ BK138.out; obtain ⟨hcz22_0, hcz22_1, hcz22_2, hcz22_3, hcz22_4, hfz22_0, hfz22_1, hfz22_2, hfz22_3, hfz22_4⟩ := b10_ BK139.out))
 go_ret
 exact ⟨qzw, qz1⟩
 }
 }
 }
 {
 obtain rfl := Option.some.inj H
 go_enter Try.func56, Try.ntmps56
 go_wp2_with (first | ((with_reducible refine gate_dst (N := 2) rfl ?_); refine bx_ 2 #[.int .i64 a0_0, .int .i64 a0_1, .int .i64 a0_2, .bool a0_3, .int .i64 a0_4] 37 ?_; intro gb138 hg w23 hbox hb; have BK138 := aM (hbox); have GW138 := aM (bz_ w hg qz1); have GE138 := GW138; replace HB := bS_ hb; clear hb hbox hg) | ((with_reducible refine gate_dst (N := 3) rfl ?_); refine bx_ 3 #[.int .i64 a1_0, .int .i64 a1_1, .int .i64 a1_2, .bool a1_3, .int .i64 a1_4] 37 ?_; intro gb139 hg w24 hbox hb; have BK139 := aM (hbox); have GW139 := aM (bz_ w hg qz1); have GE139 := GW139; replace HB := bS_ hb; obtain ⟨NB138_139, NB139_138⟩ := nb_ hg (bk_ BK138.out); replace BK138 := bB_ BK138 hb; clear hb hbox hg; have hnb25 := NB138_139.out; have hnc25 := NB139_138.out; obtain ⟨hcz26_0, hcz26_1, hcz26_2, hcz26_3, hcz26_4, hfz26_0, hfz26_1, hfz26_2, hfz26_3, hfz26_4⟩ := b10_ BK138.out; obtain ⟨hcz27_0, hcz27_1, hcz27_2, hcz27_3, hcz27_4, hfz27_0, hfz27_1, hfz27_2, hfz27_3, hfz27_4⟩ := b10_ BK139.out))
 go_ret
 exact ⟨qzw, qz1⟩
 }
 }
 {
 obtain rfl := Option.some.inj H
 go_enter Try.func56, Try.ntmps56
 go_wp2_with (first | ((with_reducible refine gate_dst (N := 2) rfl ?_); refine bx_ 2 #[.int .i64 a0_0, .int .i64 a0_1, .int .i64 a0_2, .bool a0_3, .int .i64 a0_4] 37 ?_; intro gb138 hg w28 hbox hb; have BK138 := aM (hbox); have GW138 := aM (bz_ w hg qz1); have GE138 := GW138; replace HB := bS_ hb; clear hb hbox hg) | ((with_reducible refine gate_dst (N := 3) rfl ?_); refine bx_ 3 #[.int .i64 a1_0, .int .i64 a1_1, .int .i64 a1_2, .bool a1_3, .int .i64 a1_4] 37 ?_; intro gb139 hg w29 hbox hb; have BK139 := aM (hbox); have GW139 := aM (bz_ w hg qz1); have GE139 := GW139; replace HB := bS_ hb; obtain ⟨NB138_139, NB139_138⟩ := nb_ hg (bk_ BK138.out); replace BK138 := bB_ BK138 hb; clear hb hbox hg; have hnb30 := NB138_139.out; have hnc30 := NB139_138.out; obtain ⟨hcz31_0, hcz31_1, hcz31_2, hcz31_3, hcz31_4, hfz31_0, hfz31_1, hfz31_2, hfz31_3, hfz31_4⟩ := b10_ BK138.out; obtain ⟨hcz32_0, hcz32_1, hcz32_2, hcz32_3, hcz32_4, hfz32_0, hfz32_1, hfz32_2, hfz32_3, hfz32_4⟩ := b10_ BK139.out))
 go_ret
 exact ⟨qzw, qz1⟩
 }
 }
 {
 obtain rfl := Option.some.inj H
 go_enter Try.func56, Try.ntmps56
 go_wp2_with (first | ((with_reducible refine gate_dst (N := 2) rfl ?_); refine bx_ 2 #[.int .i64 a0_0, .int .i64 a0_1, .int .i64 a0_2, .bool a0_3, .int .i64 a0_4] 37 ?_; intro gb138 hg w33 hbox hb; have BK138 := aM (hbox); have GW138 := aM (bz_ w hg qz1); have GE138 := GW138; replace HB := bS_ hb; clear hb hbox hg) | ((with_reducible refine gate_dst (N := 3) rfl ?_); refine bx_ 3 #[.int .i64 a1_0, .int .i64 a1_1, .int .i64 a1_2, .bool a1_3, .int .i64 a1_4] 37 ?_; intro gb139 hg w34 hbox hb; have BK139 := aM (hbox); have GW139 := aM (bz_ w hg qz1); have GE139 := GW139; replace HB := bS_ hb; obtain ⟨NB138_139, NB139_138⟩ := nb_ hg (bk_ BK138.out); replace BK138 := bB_ BK138 hb; clear hb hbox hg; have hnb35 := NB138_139.out; have hnc35 := NB139_138.out; obtain ⟨hcz36_0, hcz36_1, hcz36_2, hcz36_3, hcz36_4, hfz36_0, hfz36_1, hfz36_2, hfz36_3, hfz36_4⟩ := b10_ BK138.out; obtain ⟨hcz37_0, hcz37_1, hcz37_2, hcz37_3, hcz37_4, hfz37_0, hfz37_1, hfz37_2, hfz37_3, hfz37_4⟩ := b10_ BK139.out))
 go_ret
 exact ⟨qzw, qz1⟩
 }
end Go.Proofs.Ytankmdbbgepmbaa.PFnExactTurns
