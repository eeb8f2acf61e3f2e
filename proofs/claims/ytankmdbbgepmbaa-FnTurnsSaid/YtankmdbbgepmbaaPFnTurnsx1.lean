-- Made by a program of this session out of the translation. Lean checks it.
import Derived.Test.YtankmdbbgepmbaaPFnTurnsx0
namespace Go.Proofs.Ytankmdbbgepmbaa.PFnTurns
open Go.RowKit Go.Proofs.YtankmdbbgepmbaaW.PrintWords Go.Proofs.YtankmdbbgepmbaaW.PrintLast Go.Proofs.YtankmdbbgepmbaaW.PrintMore
attribute [local go_sem] max2_int min2_int max_two min_two max_three min_three max_four min_four   -- for this text's walks alone
set_option linter.unusedVariables false
set_option linter.unusedSimpArgs false

-- NOT PRINTED: function 93 (reflectlite_ValueOf)

-- NOT PRINTED: function 94 (reflectlite_Swapper)

-- NOT PRINTED: function 121 (sort_insertionSort_func)

-- NOT PRINTED: function 134 (sort_swapRange_func)

-- NOT PRINTED: function 131 (sort_rotate_func)

-- NOT PRINTED: function 122 (sort_symMerge_func)

-- NOT PRINTED: function 95 (sort_stable_func)

-- NOT PRINTED: function 96 (reflectlite_Value_Len)

-- NOT PRINTED: function 54 (sort_SliceStable)

/-! ### impl_Turns: function 17 -/
def impl_TurnsL.T1 : Bool × List (List Nat × List Nat) := (true, [([], []), ([], []), ([], []), ([1, 2], [1, 2]), ([3], [3]), ([0, 4], [0, 4]), ([5], [5]), ([], []), ([], []), ([], []), ([8, 9], [8, 9]), ([10], [10]), ([7, 11], [7, 11]), ([12], [12]), ([], []), ([], []), ([14, 6, 0, 1, 2, 3, 4, 5, 6, 14, 15], [6, 14]), ([15, 13, 16, 0, 1, 2, 3, 4, 5, 6, 7, 8, 9, 10, 11, 12, 13, 14, 15, 16], [13, 15])])
def impl_TurnsL.B1 : List Nat := [0, 0, 0, 6, 14, 31, 63, 0, 0, 0, 768, 1792, 3968, 8064, 0, 0, 49279, 131071]
theorem impl_TurnsL.tab1 : rtab .any (opsOf Try.f55 1) = impl_TurnsL.T1 := by kernel_rfl
theorem impl_TurnsL.bits1 : waitsOk impl_TurnsL.T1.2 impl_TurnsL.B1 = true := by kernel_rfl
def turnsLt (l : List S37) (a b : Int) : Bool := decide ((rd_T37 l a).f4 > (rd_T37 l b).f4) || (decide ((rd_T37 l a).f4 = (rd_T37 l b).f4) && decide ((rd_T37 l a).f0 < (rd_T37 l b).f0))
set_option maxHeartbeats 8000000 in
set_option maxRecDepth 100000 in
theorem impl_TurnsL.calls (A0 : Option Addr) (c0 : Nat) (l0 : List S37) (W : World) (hr0 : Kd.C k37 W A0 l0.length l0) (b1 b2 g n c : Nat) (ia ib : Nat) (x y : Int) (hb1 : W.cell? ⟨b1, 0, none⟩ = some (.slice A0 l0.length c0)) (hb2 : W.cell? ⟨b2, 0, none⟩ = some (.slice (some ⟨g, 0, none⟩) n c))
  (hi : ia < n) (hj : ib < n) (hx : W.cell? ⟨g, ia, none⟩ = some (.int .i64 x)) (hy : W.cell? ⟨g, ib, none⟩ = some (.int .i64 y)) (hx0 : 0 ≤ x) (hx1 : x < (l0.length : Int)) (hy0 : 0 ≤ y) (hy1 : y < (l0.length : Int)) :
  Calls Try.prog 55 #[.int .i64 ia, .int .i64 ib, .pointer (some ⟨b1, 0, none⟩), .pointer (some ⟨b2, 0, none⟩)] W fun e w' => e = .returned (.bool (turnsLt l0 x y)) ∧ Below W.heap.size W w' := by
 have hu37 := Try.underlying37
 have hu24 := Try.underlying24
 have hu26 := Try.underlying26
 obtain ⟨adx, ex, x0, x1, x2, x3, x4⟩ := at_T37 hr0 x hx0 hx1
 obtain ⟨ady, ey, y0, y1, y2, y3, y4⟩ := at_T37 hr0 y hy0 hy1
 subst ex
 cases ey
 have hn0 : 0 < n := by omega
 have Hb1 := aM hb1
 have Hb2 := aM hb2
 have Hx := aM hx
 have Hy := aM hy
 have X0 := aM x0
 have Y0 := aM y0
 have X1 := aM x1
 have Y1 := aM y1
 have X2 := aM x2
 have Y2 := aM y2
 have X3 := aM x3
 have Y3 := aM y3
 have X4 := aM x4
 have Y4 := aM y4
 go_enter Try.func55, Try.ntmps55
 go_wp2
 refine start_ (n := 18) (S := fun w' => w'.cell? ⟨b1, 0, none⟩ = some (.slice (some adx) l0.length c0) ∧ w'.cell? ⟨b2, 0, none⟩ = some (.slice (some ⟨g, 0, none⟩) n c) ∧ w'.cell? ⟨g, ia, none⟩ = some (.int .i64 x) ∧ w'.cell? ⟨g, ib, none⟩ = some (.int .i64 y) ∧ w'.cell? (adx.add (x.toNat * 5)) = some (.int .i64 (rd_T37 l0 x).f0) ∧ w'.cell? ⟨(adx.add (x.toNat * 5)).block, (adx.add (x.toNat * 5)).off + 1, none⟩ = some (.int .i64 (rd_T37 l0 x).f1) ∧ w'.cell? ⟨(adx.add (x.toNat * 5)).block, (adx.add (x.toNat * 5)).off + 2, none⟩ = some (.int .i64 (rd_T37 l0 x).f2) ∧ w'.cell? ⟨(adx.add (x.toNat * 5)).block, (adx.add (x.toNat * 5)).off + 3, none⟩ = some (.bool (rd_T37 l0 x).f3) ∧ w'.cell? ⟨(adx.add (x.toNat * 5)).block, (adx.add (x.toNat * 5)).off + 4, none⟩ = some (.int .i64 (rd_T37 l0 x).f4) ∧ w'.cell? (adx.add (y.toNat * 5)) = some (.int .i64 (rd_T37 l0 y).f0) ∧ w'.cell? ⟨(adx.add (y.toNat * 5)).block, (adx.add (y.toNat * 5)).off + 1, none⟩ = some (.int .i64 (rd_T37 l0 y).f1) ∧ w'.cell? ⟨(adx.add (y.toNat * 5)).block, (adx.add (y.toNat * 5)).off + 2, none⟩ = some (.int .i64 (rd_T37 l0 y).f2) ∧ w'.cell? ⟨(adx.add (y.toNat * 5)).block, (adx.add (y.toNat * 5)).off + 3, none⟩ = some (.bool (rd_T37 l0 y).f3) ∧ w'.cell? ⟨(adx.add (y.toNat * 5)).block, (adx.add (y.toNat * 5)).off + 4, none⟩ = some (.int .i64 (rd_T37 l0 y).f4)) (ds := [17]) #[false, false, false, false, false, false, false, false, false, false, false, false, false, false, false, false, false, false] (by kernel_rfl) rfl rfl ⟨hb1, hb2, hx, hy, x0, x1, x2, x3, x4, y0, y1, y2, y3, y4⟩ (fun hHeld => ?_); refine with_tabW impl_TurnsL.tab1 impl_TurnsL.bits1 (fun HT_ HW_ => ?_)
 refine pI_ 2 11 (bqz 18 4) ?_
 refine jI_ 9 18 ?_
 refine sI14_ 0 9 ?_
 refine sI14_ 1 10 ?_
 refine jI_ 3 12 ?_
 refine sI14_ 4 13 ?_
 refine jI_ 5 14 ?_
 refine sI14_ 6 15 ?_
 refine sI14_ 7 16 ?_
 refine sI14_ 8 17 ?_
 refine jI_ 10 19 ?_
 refine sI14_ 11 20 ?_
 refine jI_ 12 21 ?_
 refine sI14_ 13 22 ?_
 have HB0 : Below W.heap.size W W.drew := below_drew (Below.refl _ _)
 refine two_ (i := 14) (j := 15) (Ni := some 7) (Nj := some 8) (bqz 18 32767) (bqz 18 49151) rfl rfl rfl rfl (two_of HT_.out (by kernel_rfl)) (by decide) (by decide) (fun K hK => ?_) (fun K hK => ?_)
 {
 have L0 : W.heap.size ≤ W.drew.heap.size := Nat.le_refl _
 refine box_step (by rfl) (N := 7) rfl (cs := #[.int .i64 0, .int .i64 0, .int .i64 0, .bool false, .int .i64 0]) (t := 37) ?hr ?_; (case hr => exact qz7); intro gx hgx w1 Bgx hb; have HB1 := below_step HB0 hb; clear hb
 refine hK.out _ _ ⟨pw_cell_below HB1 Hb1.out, pw_cell_below HB1 Hb2.out, pw_cell_below HB1 Hx.out, pw_cell_below HB1 Hy.out, pw_cell_below HB1 X0.out, pw_cell_below HB1 X1.out, pw_cell_below HB1 X2.out, pw_cell_below HB1 X3.out, pw_cell_below HB1 X4.out, pw_cell_below HB1 Y0.out, pw_cell_below HB1 Y1.out, pw_cell_below HB1 Y2.out, pw_cell_below HB1 Y3.out, pw_cell_below HB1 Y4.out⟩ (fun hHeld => ?_)
 clear hK K
 refine nm_ 7 ?_
 have Ggx := Nat.le_trans L0 (Nat.le_of_eq hgx.symm)
 refine one_ (i := 15) (N := some 8) (bqz 18 65535) rfl rfl qzc (by decide) (fun K hK => ?_)
 have L1 := below_size HB1
 have bl_ := blk_lt Bgx
 refine box_step (by rfl) (N := 8) rfl (cs := #[.int .i64 0, .int .i64 0, .int .i64 0, .bool false, .int .i64 0]) (t := 37) ?hr ?_; (case hr => exact qz7); intro gy hgy w2 Bgy hb; have HB2 := below_step HB1 hb; replace Bgx := blk_below Bgx hb; clear hb
 refine hK.out _ _ ⟨pw_cell_below HB2 Hb1.out, pw_cell_below HB2 Hb2.out, pw_cell_below HB2 Hx.out, pw_cell_below HB2 Hy.out, pw_cell_below HB2 X0.out, pw_cell_below HB2 X1.out, pw_cell_below HB2 X2.out, pw_cell_below HB2 X3.out, pw_cell_below HB2 X4.out, pw_cell_below HB2 Y0.out, pw_cell_below HB2 Y1.out, pw_cell_below HB2 Y2.out, pw_cell_below HB2 Y3.out, pw_cell_below HB2 Y4.out⟩ (fun hHeld => ?_)
 clear hK K
 refine nm_ 8 ?_
 have Ggy := Nat.le_trans L1 (Nat.le_of_eq hgy.symm)
 have NE : gx ≠ gy := by omega
 have NE' : gy ≠ gx := by omega
 clear hgx hgy L0 L1 bl_ HB0 HB1
 have Fgx := fun k => blk_frozen Bgx k
 have gx0 := c5_0 Bgx
 have gfx0 := blk_frozen Bgx 0
 have gx1 := c5_1 Bgx
 have gfx1 := blk_frozen Bgx 1
 have gx2 := c5_2 Bgx
 have gfx2 := blk_frozen Bgx 2
 have gx3 := c5_3 Bgx
 have gfx3 := blk_frozen Bgx 3
 have gx4 := c5_4 Bgx
 have gfx4 := blk_frozen Bgx 4
 have Fgy := fun k => blk_frozen Bgy k
 have gy0 := c5_0 Bgy
 have gfy0 := blk_frozen Bgy 0
 have gy1 := c5_1 Bgy
 have gfy1 := blk_frozen Bgy 1
 have gy2 := c5_2 Bgy
 have gfy2 := blk_frozen Bgy 2
 have gy3 := c5_3 Bgy
 have gfy3 := blk_frozen Bgy 3
 have gy4 := c5_4 Bgy
 have gfy4 := blk_frozen Bgy 4
 refine one_ (i := 16) (N := none) (bqz 18 131071) rfl rfl qzc (by decide) (fun K hK => ?_)
 refine sk_ ?_
 have HB3 := below_put5 HB2 Ggx (.int .i64 (rd_T37 l0 x).f0) (.int .i64 (rd_T37 l0 x).f1) (.int .i64 (rd_T37 l0 x).f2) (.bool (rd_T37 l0 x).f3) (.int .i64 (rd_T37 l0 x).f4)
 have BX := blk_put5 Bgx (.int .i64 (rd_T37 l0 x).f0) (.int .i64 (rd_T37 l0 x).f1) (.int .i64 (rd_T37 l0 x).f2) (.bool (rd_T37 l0 x).f3) (.int .i64 (rd_T37 l0 x).f4)
 have BY := blk_far5 Bgy NE' (.int .i64 (rd_T37 l0 x).f0) (.int .i64 (rd_T37 l0 x).f1) (.int .i64 (rd_T37 l0 x).f2) (.bool (rd_T37 l0 x).f3) (.int .i64 (rd_T37 l0 x).f4)
 generalize (((((w2.setCell ⟨gx, 0, none⟩ (.int .i64 (rd_T37 l0 x).f0)).setCell ⟨gx, 1, none⟩ (.int .i64 (rd_T37 l0 x).f1)).setCell ⟨gx, 2, none⟩ (.int .i64 (rd_T37 l0 x).f2)).setCell ⟨gx, 3, none⟩ (.bool (rd_T37 l0 x).f3)).setCell ⟨gx, 4, none⟩ (.int .i64 (rd_T37 l0 x).f4)) = w3 at HB3 BX BY ⊢
 clear Bgx Bgy HB2 Fgx Fgy gx0 gfx0 gx1 gfx1 gx2 gfx2 gx3 gfx3 gx4 gfx4 gy0 gfy0 gy1 gfy1 gy2 gfy2 gy3 gfy3 gy4 gfy4
 refine hK.out _ _ ⟨pw_cell_below HB3 Hb1.out, pw_cell_below HB3 Hb2.out, pw_cell_below HB3 Hx.out, pw_cell_below HB3 Hy.out, pw_cell_below HB3 X0.out, pw_cell_below HB3 X1.out, pw_cell_below HB3 X2.out, pw_cell_below HB3 X3.out, pw_cell_below HB3 X4.out, pw_cell_below HB3 Y0.out, pw_cell_below HB3 Y1.out, pw_cell_below HB3 Y2.out, pw_cell_below HB3 Y3.out, pw_cell_below HB3 Y4.out⟩ (fun hHeld => ?_)
 clear hK K
 have gy0 := c5_0 BY
 have gfy0 := blk_frozen BY 0
 have gy1 := c5_1 BY
 have gfy1 := blk_frozen BY 1
 have gy2 := c5_2 BY
 have gfy2 := blk_frozen BY 2
 have gy3 := c5_3 BY
 have gfy3 := blk_frozen BY 3
 have gy4 := c5_4 BY
 have gfy4 := blk_frozen BY 4
 refine last_ (i := 17) (N := none) (bqz 18 262143) rfl rfl qzc (by decide) (fun K hK => ?_)
 refine sk_ ?_
 refine hK.out _ _ ?_
 clear hK K
 have HB4 := below_put5 HB3 Ggy (.int .i64 (rd_T37 l0 y).f0) (.int .i64 (rd_T37 l0 y).f1) (.int .i64 (rd_T37 l0 y).f2) (.bool (rd_T37 l0 y).f3) (.int .i64 (rd_T37 l0 y).f4)
 have CX := blk_far5 BX NE (.int .i64 (rd_T37 l0 y).f0) (.int .i64 (rd_T37 l0 y).f1) (.int .i64 (rd_T37 l0 y).f2) (.bool (rd_T37 l0 y).f3) (.int .i64 (rd_T37 l0 y).f4)
 have CY := blk_put5 BY (.int .i64 (rd_T37 l0 y).f0) (.int .i64 (rd_T37 l0 y).f1) (.int .i64 (rd_T37 l0 y).f2) (.bool (rd_T37 l0 y).f3) (.int .i64 (rd_T37 l0 y).f4)
 generalize (((((w3.setCell ⟨gy, 0, none⟩ (.int .i64 (rd_T37 l0 y).f0)).setCell ⟨gy, 1, none⟩ (.int .i64 (rd_T37 l0 y).f1)).setCell ⟨gy, 2, none⟩ (.int .i64 (rd_T37 l0 y).f2)).setCell ⟨gy, 3, none⟩ (.bool (rd_T37 l0 y).f3)).setCell ⟨gy, 4, none⟩ (.int .i64 (rd_T37 l0 y).f4)) = w4 at HB4 CX CY ⊢
 clear BX BY HB3 hHeld gy0 gfy0 gy1 gfy1 gy2 gfy2 gy3 gfy3 gy4 gfy4
 refine done_ (done_of HT_.out (by kernel_rfl)) ?_
 have gx0 := c5_0 CX
 have gx4 := c5_4 CX
 have gy0 := c5_0 CY
 have gy4 := c5_4 CY
 by_cases c1 : (rd_T37 l0 x).f4 > (rd_T37 l0 y).f4
 {
 have d1 : decide ((rd_T37 l0 x).f4 > (rd_T37 l0 y).f4) = true := decide_eq_true c1
 have R1 : turnsLt l0 x y = true := by unfold turnsLt; rw [d1]; rfl
 have HR := aM R1; clear R1 c1
 go_wp2
 go_ret
 exact ⟨by rw [HR.out]; rfl, HB4⟩
 }
 {
 have d1 : decide ((rd_T37 l0 x).f4 > (rd_T37 l0 y).f4) = false := decide_eq_false c1
 by_cases c2 : (rd_T37 l0 x).f4 = (rd_T37 l0 y).f4
 {
 have d2 : ((rd_T37 l0 x).f4 == (rd_T37 l0 y).f4) = true := by simpa using c2
 have R1 : turnsLt l0 x y = decide ((rd_T37 l0 x).f0 < (rd_T37 l0 y).f0) := by unfold turnsLt; rw [d1, decide_eq_true c2]; simp
 have HR := aM R1; clear R1 c1 c2
 go_wp2
 go_ret
 exact ⟨by rw [HR.out]; rfl, HB4⟩
 }
 {
 have d2 : ((rd_T37 l0 x).f4 == (rd_T37 l0 y).f4) = false := by simpa using c2
 have R1 : turnsLt l0 x y = false := by unfold turnsLt; rw [d1, decide_eq_false c2]; simp
 have HR := aM R1; clear R1 c1 c2
 go_wp2
 go_ret
 exact ⟨by rw [HR.out]; rfl, HB4⟩
 }
 }
 }
 {
 have L0 : W.heap.size ≤ W.drew.heap.size := Nat.le_refl _
 refine box_step (by rfl) (N := 8) rfl (cs := #[.int .i64 0, .int .i64 0, .int .i64 0, .bool false, .int .i64 0]) (t := 37) ?hr ?_; (case hr => exact qz7); intro gy hgy w1 Bgy hb; have HB1 := below_step HB0 hb; clear hb
 refine hK.out _ _ ⟨pw_cell_below HB1 Hb1.out, pw_cell_below HB1 Hb2.out, pw_cell_below HB1 Hx.out, pw_cell_below HB1 Hy.out, pw_cell_below HB1 X0.out, pw_cell_below HB1 X1.out, pw_cell_below HB1 X2.out, pw_cell_below HB1 X3.out, pw_cell_below HB1 X4.out, pw_cell_below HB1 Y0.out, pw_cell_below HB1 Y1.out, pw_cell_below HB1 Y2.out, pw_cell_below HB1 Y3.out, pw_cell_below HB1 Y4.out⟩ (fun hHeld => ?_)
 clear hK K
 refine nm_ 8 ?_
 have Ggy := Nat.le_trans L0 (Nat.le_of_eq hgy.symm)
 refine one_ (i := 14) (N := some 7) (bqz 18 65535) rfl rfl qzc (by decide) (fun K hK => ?_)
 have L1 := below_size HB1
 have bl_ := blk_lt Bgy
 refine box_step (by rfl) (N := 7) rfl (cs := #[.int .i64 0, .int .i64 0, .int .i64 0, .bool false, .int .i64 0]) (t := 37) ?hr ?_; (case hr => exact qz7); intro gx hgx w2 Bgx hb; have HB2 := below_step HB1 hb; replace Bgy := blk_below Bgy hb; clear hb
 refine hK.out _ _ ⟨pw_cell_below HB2 Hb1.out, pw_cell_below HB2 Hb2.out, pw_cell_below HB2 Hx.out, pw_cell_below HB2 Hy.out, pw_cell_below HB2 X0.out, pw_cell_below HB2 X1.out, pw_cell_below HB2 X2.out, pw_cell_below HB2 X3.out, pw_cell_below HB2 X4.out, pw_cell_below HB2 Y0.out, pw_cell_below HB2 Y1.out, pw_cell_below HB2 Y2.out, pw_cell_below HB2 Y3.out, pw_cell_below HB2 Y4.out⟩ (fun hHeld => ?_)
 clear hK K
 refine nm_ 7 ?_
 have Ggx := Nat.le_trans L1 (Nat.le_of_eq hgx.symm)
 have NE : gx ≠ gy := by omega
 have NE' : gy ≠ gx := by omega
 clear hgx hgy L0 L1 bl_ HB0 HB1
 have Fgx := fun k => blk_frozen Bgx k
 have gx0 := c5_0 Bgx
 have gfx0 := blk_frozen Bgx 0
 have gx1 := c5_1 Bgx
 have gfx1 := blk_frozen Bgx 1
 have gx2 := c5_2 Bgx
 have gfx2 := blk_frozen Bgx 2
 have gx3 := c5_3 Bgx
 have gfx3 := blk_frozen Bgx 3
 have gx4 := c5_4 Bgx
 have gfx4 := blk_frozen Bgx 4
 have Fgy := fun k => blk_frozen Bgy k
 have gy0 := c5_0 Bgy
 have gfy0 := blk_frozen Bgy 0
 have gy1 := c5_1 Bgy
 have gfy1 := blk_frozen Bgy 1
 have gy2 := c5_2 Bgy
 have gfy2 := blk_frozen Bgy 2
 have gy3 := c5_3 Bgy
 have gfy3 := blk_frozen Bgy 3
 have gy4 := c5_4 Bgy
 have gfy4 := blk_frozen Bgy 4
 refine one_ (i := 16) (N := none) (bqz 18 131071) rfl rfl qzc (by decide) (fun K hK => ?_)
 refine sk_ ?_
 have HB3 := below_put5 HB2 Ggx (.int .i64 (rd_T37 l0 x).f0) (.int .i64 (rd_T37 l0 x).f1) (.int .i64 (rd_T37 l0 x).f2) (.bool (rd_T37 l0 x).f3) (.int .i64 (rd_T37 l0 x).f4)
 have BX := blk_put5 Bgx (.int .i64 (rd_T37 l0 x).f0) (.int .i64 (rd_T37 l0 x).f1) (.int .i64 (rd_T37 l0 x).f2) (.bool (rd_T37 l0 x).f3) (.int .i64 (rd_T37 l0 x).f4)
 have BY := blk_far5 Bgy NE' (.int .i64 (rd_T37 l0 x).f0) (.int .i64 (rd_T37 l0 x).f1) (.int .i64 (rd_T37 l0 x).f2) (.bool (rd_T37 l0 x).f3) (.int .i64 (rd_T37 l0 x).f4)
 generalize (((((w2.setCell ⟨gx, 0, none⟩ (.int .i64 (rd_T37 l0 x).f0)).setCell ⟨gx, 1, none⟩ (.int .i64 (rd_T37 l0 x).f1)).setCell ⟨gx, 2, none⟩ (.int .i64 (rd_T37 l0 x).f2)).setCell ⟨gx, 3, none⟩ (.bool (rd_T37 l0 x).f3)).setCell ⟨gx, 4, none⟩ (.int .i64 (rd_T37 l0 x).f4)) = w3 at HB3 BX BY ⊢
 clear Bgx Bgy HB2 Fgx Fgy gx0 gfx0 gx1 gfx1 gx2 gfx2 gx3 gfx3 gx4 gfx4 gy0 gfy0 gy1 gfy1 gy2 gfy2 gy3 gfy3 gy4 gfy4
 refine hK.out _ _ ⟨pw_cell_below HB3 Hb1.out, pw_cell_below HB3 Hb2.out, pw_cell_below HB3 Hx.out, pw_cell_below HB3 Hy.out, pw_cell_below HB3 X0.out, pw_cell_below HB3 X1.out, pw_cell_below HB3 X2.out, pw_cell_below HB3 X3.out, pw_cell_below HB3 X4.out, pw_cell_below HB3 Y0.out, pw_cell_below HB3 Y1.out, pw_cell_below HB3 Y2.out, pw_cell_below HB3 Y3.out, pw_cell_below HB3 Y4.out⟩ (fun hHeld => ?_)
 clear hK K
 have gy0 := c5_0 BY
 have gfy0 := blk_frozen BY 0
 have gy1 := c5_1 BY
 have gfy1 := blk_frozen BY 1
 have gy2 := c5_2 BY
 have gfy2 := blk_frozen BY 2
 have gy3 := c5_3 BY
 have gfy3 := blk_frozen BY 3
 have gy4 := c5_4 BY
 have gfy4 := blk_frozen BY 4
 refine last_ (i := 17) (N := none) (bqz 18 262143) rfl rfl qzc (by decide) (fun K hK => ?_)
 refine sk_ ?_
 refine hK.out _ _ ?_
 clear hK K
 have HB4 := below_put5 HB3 Ggy (.int .i64 (rd_T37 l0 y).f0) (.int .i64 (rd_T37 l0 y).f1) (.int .i64 (rd_T37 l0 y).f2) (.bool (rd_T37 l0 y).f3) (.int .i64 (rd_T37 l0 y).f4)
 have CX := blk_far5 BX NE (.int .i64 (rd_T37 l0 y).f0) (.int .i64 (rd_T37 l0 y).f1) (.int .i64 (rd_T37 l0 y).f2) (.bool (rd_T37 l0 y).f3) (.int .i64 (rd_T37 l0 y).f4)
 have CY := blk_put5 BY (.int .i64 (rd_T37 l0 y).f0) (.int .i64 (rd_T37 l0 y).f1) (.int .i64 (rd_T37 l0 y).f2) (.bool (rd_T37 l0 y).f3) (.int .i64 (rd_T37 l0 y).f4)
 generalize (((((w3.setCell ⟨gy, 0, none⟩ (.int .i64 (rd_T37 l0 y).f0)).setCell ⟨gy, 1, none⟩ (.int .i64 (rd_T37 l0 y).f1)).setCell ⟨gy, 2, none⟩ (.int .i64 (rd_T37 l0 y).f2)).setCell ⟨gy, 3, none⟩ (.bool (rd_T37 l0 y).f3)).setCell ⟨gy, 4, none⟩ (.int .i64 (rd_T37 l0 y).f4)) = w4 at HB4 CX CY ⊢
 clear BX BY HB3 hHeld gy0 gfy0 gy1 gfy1 gy2 gfy2 gy3 gfy3 gy4 gfy4
 refine done_ (done_of HT_.out (by kernel_rfl)) ?_
 have gx0 := c5_0 CX
 have gx4 := c5_4 CX
 have gy0 := c5_0 CY
 have gy4 := c5_4 CY
 by_cases c1 : (rd_T37 l0 x).f4 > (rd_T37 l0 y).f4
 {
 have d1 : decide ((rd_T37 l0 x).f4 > (rd_T37 l0 y).f4) = true := decide_eq_true c1
 have R1 : turnsLt l0 x y = true := by unfold turnsLt; rw [d1]; rfl
 have HR := aM R1; clear R1 c1
 go_wp2
 go_ret
 exact ⟨by rw [HR.out]; rfl, HB4⟩
 }
 {
 have d1 : decide ((rd_T37 l0 x).f4 > (rd_T37 l0 y).f4) = false := decide_eq_false c1
 by_cases c2 : (rd_T37 l0 x).f4 = (rd_T37 l0 y).f4
 {
 have d2 : ((rd_T37 l0 x).f4 == (rd_T37 l0 y).f4) = true := by simpa using c2
 have R1 : turnsLt l0 x y = decide ((rd_T37 l0 x).f0 < (rd_T37 l0 y).f0) := by unfold turnsLt; rw [d1, decide_eq_true c2]; simp
 have HR := aM R1; clear R1 c1 c2
 go_wp2
 go_ret
 exact ⟨by rw [HR.out]; rfl, HB4⟩
 }
 {
 have d2 : ((rd_T37 l0 x).f4 == (rd_T37 l0 y).f4) = false := by simpa using c2
 have R1 : turnsLt l0 x y = false := by unfold turnsLt; rw [d1, decide_eq_false c2]; simp
 have HR := aM R1; clear R1 c1 c2
 go_wp2
 go_ret
 exact ⟨by rw [HR.out]; rfl, HB4⟩
 }
 }
 }
def impl_Turns.T5 : Bool × List (List Nat × List Nat) := (true, [([], []), ([], []), ([1], [1]), ([0, 2], [0, 2]), ([3, 3, 0, 1, 2, 3], [3])])
def impl_Turns.B5 : List Nat := [0, 0, 2, 7, 15]
theorem impl_Turns.tab5 : rtab .any (opsOf Try.f17 5) = impl_Turns.T5 := by kernel_rfl
theorem impl_Turns.bits5 : waitsOk impl_Turns.T5.2 impl_Turns.B5 = true := by kernel_rfl
def impl_Turns.T7 : Bool × List (List Nat × List Nat) := (true, [([], []), ([0], [0]), ([], []), ([1, 2], [1, 2])])
def impl_Turns.B7 : List Nat := [0, 1, 0, 7]
theorem impl_Turns.tab7 : rtab .any (opsOf Try.f17 7) = impl_Turns.T7 := by kernel_rfl
theorem impl_Turns.bits7 : waitsOk impl_Turns.T7.2 impl_Turns.B7 = true := by kernel_rfl
def upto (n : Nat) : List Int := (List.range n).map (fun i : Nat => (i : Int))
theorem upto_succ (n : Nat) : upto (n + 1) = upto n ++ [(n : Int)] := by simp [upto, List.range_succ]
theorem upto_length (n : Nat) : (upto n).length = n := by simp [upto]
theorem upto_mem {n : Nat} {x : Int} (h : x ∈ upto n) : 0 ≤ x ∧ x < (n : Int) := by
 obtain ⟨i, hi, rfl⟩ := List.mem_map.1 h
 have := List.mem_range.1 hi
 omega
def impl_Turns.f (l0 : List S37) : Option (List Int) := if l0.length ≤ 20 then some (sortL (turnsLt l0) (upto l0.length)) else none
set_option maxHeartbeats 8000000 in
set_option maxRecDepth 100000 in
theorem impl_Turns.calls (A0 : Option Addr) (c0 : Nat) (l0 : List S37) (r : List Int) (w : World) (hr0 : Kd.C k37 w A0 l0.length l0) (hc0 : l0.length ≤ c0) (h : impl_Turns.f l0 = some r) :
  Calls Try.prog 17 #[.slice A0 l0.length c0] w fun e w' => ∃ v0_ : Value, e = .returned v0_ ∧ Kd.R (Kd.int .i64) 3 w' w.heap.size (fun _ => True) v0_ r ∧ Below w.heap.size w w' := by
 have hu24 := Try.underlying24
 have hu26 := Try.underlying26
 have hl20 : l0.length ≤ 20 := by
  unfold impl_Turns.f at h
  split at h
  {
  assumption
  }
  {
  cases h
  }
 have hr : r = sortL (turnsLt l0) (upto l0.length) := by unfold impl_Turns.f at h; rw [if_pos hl20] at h; exact (Option.some.inj h).symm
 have HRR := aM hr
 have HR0 := aM hr0
 have HC0 := aM hc0
 have HL := aM hl20
 clear hr hr0 hc0 hl20 h
 have HB := aM (Below.refl w.heap.size w)
 go_enter Try.func17, Try.ntmps17
 go_wp2_with (first
  | ((with_reducible refine gate_dst (N := 1) rfl ?_); refine box_event rfl (N := 1) rfl (cs := #[.slice A0 l0.length c0]) (t := 26) ?hr ?_; (case hr => exact qz7); intro b1 hg w1 hbx hb; have BK1 := aM hbx; have GB1 := aM (Nat.le_of_eq hg.symm : w.heap.size ≤ b1); replace HB := aM (below_step HB.out hb); have hbl := blk_lt hbx; have hc1 : w1.cell? ⟨b1, 0, none⟩ = some (.slice A0 l0.length c0) := (blk_cell hbx 0).trans rfl; clear hb hbx hg)
  | ((with_reducible refine gate_dst (N := 3) rfl ?_); refine box_event rfl (N := 3) rfl (cs := #[.slice none 0 0]) (t := 24) ?hr ?_; (case hr => exact qz7); intro b2 hg w2 hbx hb; have BK2 := aM hbx; have NE := aM (show b1 ≠ b2 from by omega); have GB2 := aM (Nat.le_trans (below_size HB.out) (Nat.le_of_eq hg.symm) : w.heap.size ≤ b2); replace HB := aM (below_step HB.out hb); replace BK1 := aM (blk_below BK1.out hb); replace hc1 : w2.cell? ⟨b1, 0, none⟩ = some (.slice A0 l0.length c0) := (blk_cell BK1.out 0).trans rfl; clear hb hbx hg hbl))
 go_loopw [7] (fun v7 w' => ∃ (i : Nat) (v : Value), v7 = .int .i64 i ∧ i ≤ l0.length ∧ Aside0 (w'.heap[b2]? = some (.cells #[v] 24 (0, 0))) ∧ Aside0 (Kd.R (Kd.int .i64) 3 w' w.heap.size (fun k => k ≠ b1 ∧ k ≠ b2) v (upto i)) ∧ Aside0 (w'.heap[b1]? = some (.cells #[.slice A0 l0.length c0] 26 (0, 0))) ∧ Aside0 (Below w.heap.size w w')) (fun v7 _ => l0.length - (intOf v7).toNat)
 case atStart => exact ⟨0, _, rfl, Nat.zero_le _, BK2, ⟨Kd.R_nil _ _ _ _ _⟩, BK1, HB⟩
 case round =>
  clear HB BK1 BK2 hc1
  obtain ⟨i, v, rfl, hi, BK2, HO, BK1, HB⟩ := hrel
  obtain ⟨A2, c2, rfl⟩ := Kd.R_slice HO.out
  have hl1 := blk_lt BK1.out
  have hl2 := blk_lt BK2.out
  have HLT := aM (And.intro hl1 hl2)
  have HI := aM hi
  clear hl1 hl2 hi
  have hn2 := upto_length i
  have HN2 := aM hn2
  clear hn2
  by_cases hlt : i < l0.length
  {
  have LMi : (upto i).length + 1 ≤ 100 := by have := HN2.out; have := HL.out; omega
  have hd : decide ((i : Int) < (l0.length : Int)) = true := decide_eq_true (by omega)
  have h20 : (i : Int) < 20 := by have := HL.out; omega
  have hc2 : wr.cell? ⟨b2, 0, none⟩ = some (.slice A2 (upto i).length c2) := (blk_cell BK2.out 0).trans rfl
  have LM := aM LMi
  clear LMi
  go_wp2_with (first
   | ((with_reducible refine gate_builtin (b := .append) (xs := #[.tmp 10, .tmp 12]) rfl ?_); at_builtin; refine Kd.R_append (Kd.int .i64) (w0 := w) w.heap.size rfl (.tmp 10) (.tmp 12) 24 3 (.int .i64 0) 8 rfl Try.underlying24 info3 rfl (by decide) (by omega) (.slice A2 (upto i).length c2) (upto i) (i : Int) [.int .i64 (i : Int)] (fun k => k ≠ b1 ∧ k ≠ b2) (fun _ => False) rfl rfl ?aP (fun _ hk => hk.elim) ?aF ?aO ?aB ?aS ?aL ?_; (case aP => exact rfl); (case aB => exact HB.out); (case aF => exact (fun k hk => ⟨by have := HLT.out.1; omega, by have := HLT.out.2; omega⟩)); (case aO => exact HO.out); (case aS => exact below_size HB.out); (case aL => have := LM.out; omega); intro v1 w3 ho hb hg hat; obtain ⟨A3, c3, rfl⟩ := Kd.R_slice ho; replace HB := aM hb; replace BK1 := aM (blk_grown BK1.out hg (fun e => (HO.out.1 b1 e.symm).1 rfl)); replace BK2 := aM (blk_grown BK2.out hg (fun e => (HO.out.1 b2 e.symm).2 rfl)); have HO3 := aM ho; clear HO ho hb hg hat hc2; have hf2 := blk_frozen BK2.out 0; have hc2 : w3.cell? ⟨b2, 0, none⟩ = some (.slice A2 (upto i).length c2) := (blk_cell BK2.out 0).trans rfl))
  go_roundw
  case rel => 
   have e_ : (upto i ++ [(i : Int)]).length = (upto i).length + 1 := by simp
   have h3 := HO3.out
   rw [e_] at h3
   refine ⟨i + 1, _, by go_num, by omega, ⟨blk_put BK2.out 0 _ rfl⟩, ⟨?_⟩, ⟨blk_far BK1.out NE.out _⟩, ⟨below_set HB.out GB2.out⟩⟩
   rw [upto_succ]
   exact Kd.R_far h3 (p := ⟨b2, 0, none⟩) (fun k hk => hk.2) _
  case measure => simp [intOf]; omega
  }
  {
  obtain rfl : i = l0.length := by have := HI.out; omega
  have hd : decide ((l0.length : Int) < (l0.length : Int)) = false := decide_eq_false (by omega)
  have hc2 : wr.cell? ⟨b2, 0, none⟩ = some (.slice A2 (upto l0.length).length c2) := (blk_cell BK2.out 0).trans rfl
  have hmi : ∀ (W : World), (Instr.makeInterface 24 (.slice A2 (upto l0.length).length c2)).run Try.prog W = .ok (.iface 24 (.slice A2 (upto l0.length).length c2)) W := fun _ => by kernel_rfl
  have hmf : ∀ (fn : Fn) (first cap : Array Value) (w : World), (Instr.makeFunc fn first cap).run Try.prog w = .ok (.func fn first cap) w := fun _ _ _ _ => rfl
  have hS := sort_few (fun x => 0 ≤ x ∧ x < (l0.length : Int)) (turnsLt l0) 55 #[.pointer (some ⟨b1, 0, none⟩), .pointer (some ⟨b2, 0, none⟩)] (enters_of Try.func55 (by kernel_rfl) rfl) A2 (upto l0.length).length c2 (upto l0.length) w.heap.size _ (by have := HN2.out; have := HL.out; omega) wr HO.out (fun x hx => upto_mem hx)
   (fun blk e W dk hl hs i j hi hj => by
    subst e
    have hb := HO.out.1 blk rfl
    have e1 := hl.gr.block b1 HLT.out.1 (by intro e; injection e with e; exact hb.1 e.symm)
    have e2 := hl.gr.block b2 HLT.out.2 (by intro e; injection e with e; exact hb.2 e.symm)
    have hi' : i < dk.size := by rw [hs]; exact hi
    have hj' : j < dk.size := by rw [hs]; exact hj
    have hx := (hl.ho i hi').1
    have hy := (hl.ho j hj').1
    rw [Nat.zero_add] at hx hy
    exact impl_TurnsL.calls A0 c0 l0 W (Kd.C_below HR0.out (pw_below_grown HB.out _ (below_size HB.out) hl.gr (Kd.R_base HO.out))) b1 b2 blk _ c2 i j dk[i]! dk[j]! ((blk_cell (e1.trans BK1.out) 0).trans rfl) ((blk_cell (e2.trans BK2.out) 0).trans rfl) hi hj hx hy (hl.al i hi').1 (hl.al i hi').2 (hl.al j hj').1 (hl.al j hj').2)
  have HS := aM hS
  clear hS
  go_wp2_with (go_at_call 54; refine HS.out.mono ?_; rintro e w3 ⟨rfl, hR, hG⟩; have HR3 := aM hR; have BK3 := aM (blk_grown BK2.out hG (fun e => (HO.out.1 b2 e.symm).2 rfl)); have HB3 := aM (pw_below_grown HB.out _ (below_size HB.out) hG (Kd.R_base HO.out)); clear hR hG hc2; have hc3 : w3.cell? ⟨b2, 0, none⟩ = some (.slice A2 (upto l0.length).length c2) := (blk_cell BK3.out 0).trans rfl)
  go_ret
  refine ⟨_, rfl, ?_, ?_⟩
  {
  rw [HRR.out]; exact Kd.R_mono HR3.out (fun _ _ => trivial)
  }
  {
  exact HB3.out

  }
  }
/-! ### laws_big: function 23 -/
def laws_big.f (l0 : List Int) : Option (Bool) := some (decide ((l0.length : Int) > 1048576))
set_option maxHeartbeats 8000000 in
set_option maxRecDepth 100000 in
theorem laws_big.calls (A0 : Option Addr) (c0 : Nat) (l0 : List Int) (r : Bool) (w : World) (hr0 : Kd.C (Kd.int .u8) w A0 l0.length l0) (hc0 : l0.length ≤ c0) (h : laws_big.f l0 = some r) :
  Calls Try.prog 23 #[.slice A0 l0.length c0] w fun e w' => e = .returned (.bool r) ∧ Drawn0 w w' := by
 have HR0 := aM hr0
 have HC0 := aM hc0
 clear hr0 hc0
 have H : (some (decide ((l0.length : Int) > 1048576))) = some r := h
 clear h
 obtain rfl := Option.some.inj H
 simp only [Option.some.injEq, Prod.mk.injEq] at H
 obtain ⟨rfl⟩ := H
 go_enter Try.func23, Try.ntmps23
 go_wp2
 go_ret
 exact ⟨by first | rfl | (simp; done) | (simp [*]; done), by repeat (first | exact Drawn0.refl _ | apply Drawn0.step)⟩

/-- A state of type 113 at block g of W; what its slices lead to came in by w0. -/
def IsS113 (w0 W : World) (g : Nat) (f0 : List Int) (f1 : Int) (f2 : Int) : Prop := ∃ A0 c0, W.heap[g]? = some (.cells #[.slice A0 f0.length c0, .int .i64 f1, .int .i64 f2] 113 (0, 0)) ∧ w0.heap.size ≤ g ∧ Kd.C (Kd.int .u8) w0 A0 f0.length f0
theorem IsS113.grown {w0 W : World} {g : Nat} {f0 : List Int} {f1 : Int} {f2 : Int} {W1 : World} {row : Option Nat} (h : IsS113 w0 W g f0 f1 f2) (hw : W.grownBy W1 row) (hne : some g ≠ row) : IsS113 w0 W1 g f0 f1 f2 := by
 obtain ⟨A0, c0, hb, hg, hr0⟩ := h
 exact ⟨A0, c0, blk_grown hb hw hne, hg, hr0⟩
theorem IsS113.own_neN {w0 W : World} {g : Nat} {f0 : List Int} {f1 : Int} {f2 : Int} {α : Type} {d : Kd α} {e : Nat} {base : Nat} {ok : Nat → Prop} {v : Value} {xs : List α} (h : IsS113 w0 W g f0 f1 f2) (ho : Kd.N d e W base ok v xs) (ht : e ≠ 113) : some g ≠ v.ownBlock := by
 obtain ⟨A0, c0, hb, hg, hr0⟩ := h
 exact Kd.N_ne ho hb ht
theorem IsS113.fresh {w0 W : World} {g : Nat} {f0 : List Int} {f1 : Int} {f2 : Int} (h : IsS113 w0 W g f0 f1 f2) : ∀ k, W.heap.size ≤ k → k ≠ g := by
 obtain ⟨A0, c0, hb, hg, hr0⟩ := h
 exact Kd.freshB hb
theorem IsS113.kept {w0 W : World} {g : Nat} {f0 : List Int} {f1 : Int} {f2 : Int} {W1 : World} {S : Nat → Prop} (h : IsS113 w0 W g f0 f1 f2) (hk : Kept W W1 S) (hne : ¬ S g) : IsS113 w0 W1 g f0 f1 f2 := by
 obtain ⟨A0, c0, hb, hg, hr0⟩ := h
 exact ⟨A0, c0, blk_kept hb hk hne, hg, hr0⟩
theorem IsS113.below {w0 W : World} {g : Nat} {f0 : List Int} {f1 : Int} {f2 : Int} {W1 : World} (h : IsS113 w0 W g f0 f1 f2) (hw : Below W.heap.size W W1) : IsS113 w0 W1 g f0 f1 f2 := h.grown (grown_of_below hw none) (by simp)
theorem IsS113.alloc {w0 W : World} {g : Nat} {f0 : List Int} {f1 : Int} {f2 : Int} (h : IsS113 w0 W g f0 f1 f2) (o : Obj) : IsS113 w0 (W.alloc o) g f0 f1 f2 := h.below (below_alloc (Below.refl _ _) o)
theorem IsS113.drewN {w0 W : World} {g : Nat} {f0 : List Int} {f1 : Int} {f2 : Int} (h : IsS113 w0 W g f0 f1 f2) (m : Nat) : IsS113 w0 (W.drewN m) g f0 f1 f2 := h
theorem IsS113.drew {w0 W : World} {g : Nat} {f0 : List Int} {f1 : Int} {f2 : Int} (h : IsS113 w0 W g f0 f1 f2) : IsS113 w0 W.drew g f0 f1 f2 := h
theorem IsS113.at_ {w0 W : World} {g : Nat} {f0 : List Int} {f1 : Int} {f2 : Int} {w' : World} {m : Nat} (hq : W.drewN m = w') (h : IsS113 w0 W g f0 f1 f2) : IsS113 w0 w' g f0 f1 f2 := by subst hq; exact IsS113.drewN h m
theorem IsS113.apart {w0 W : World} {g : Nat} {f0 : List Int} {f1 : Int} {f2 : Int} {α : Type} {d : Kd α} {e : Nat} {base : Nat} {ok : Nat → Prop} {v : Value} {xs : List α} (h : IsS113 w0 W g f0 f1 f2) (ho : d.R e W base ok v xs) (ht : ∀ q, q ∈ e :: d.E → q ≠ 113) : d.R e W base (fun k => ok k ∧ k ≠ g) v xs := by
 obtain ⟨A0, c0, hb, hg, hr0⟩ := h
 exact Kd.R_types ho hb ht
theorem IsS113.own_ne {w0 W : World} {g : Nat} {f0 : List Int} {f1 : Int} {f2 : Int} {α : Type} {d : Kd α} {e : Nat} {base : Nat} {ok : Nat → Prop} {v : Value} {xs : List α} (h : IsS113 w0 W g f0 f1 f2) (ho : d.R e W base ok v xs) (ht : e ≠ 113) : some g ≠ v.ownBlock := by
 obtain ⟨A0, c0, hb, hg, hr0⟩ := h
 exact Kd.R_ne ho hb ht
theorem IsS113.apartQ {w0 W : World} {g : Nat} {f0 : List Int} {f1 : Int} {f2 : Int} {α : Type} {d : Kd α} {e : Nat} {base : Nat} {ok : Nat → Prop} {v : Value} {xs : List α} (h : IsS113 w0 W g f0 f1 f2) (ho : d.Q e W base ok v xs) (ht : ∀ q, q ∈ e :: d.E → q ≠ 113) : d.Q e W base (fun k => ok k ∧ k ≠ g) v xs := by
 obtain ⟨A0, c0, hb, hg, hr0⟩ := h
 exact Kd.Q_types ho hb ht
theorem IsS113.own_neQ {w0 W : World} {g : Nat} {f0 : List Int} {f1 : Int} {f2 : Int} {α : Type} {d : Kd α} {e : Nat} {base : Nat} {ok : Nat → Prop} {v : Value} {xs : List α} (h : IsS113 w0 W g f0 f1 f2) (ho : d.Q e W base ok v xs) (ht : e ≠ 113) : some g ≠ v.ownBlock := by
 obtain ⟨A0, c0, hb, hg, hr0⟩ := h
 exact Kd.Q_ne ho hb ht
theorem IsS113.apartS {w0 W : World} {g : Nat} {f0 : List Int} {f1 : Int} {f2 : Int} {α : Type} {d : Kd α} {e : Nat} {base : Nat} {ok : Nat → Prop} {v : Value} {xs : List α} (h : IsS113 w0 W g f0 f1 f2) (ho : d.S e W base ok v xs) (ht : ∀ q, q ∈ e :: d.E → q ≠ 113) : d.S e W base (fun k => ok k ∧ k ≠ g) v xs := by
 obtain ⟨A0, c0, hb, hg, hr0⟩ := h
 exact Kd.S_types ho hb ht
theorem IsS113.own_neS {w0 W : World} {g : Nat} {f0 : List Int} {f1 : Int} {f2 : Int} {α : Type} {d : Kd α} {e : Nat} {base : Nat} {ok : Nat → Prop} {v : Value} {xs : List α} (h : IsS113 w0 W g f0 f1 f2) (ho : d.S e W base ok v xs) (ht : e ≠ 113) : some g ≠ v.ownBlock := by
 obtain ⟨A0, c0, hb, hg, hr0⟩ := h
 exact Kd.S_ne ho hb ht
theorem IsS113.lt {w0 W : World} {g : Nat} {f0 : List Int} {f1 : Int} {f2 : Int} (h : IsS113 w0 W g f0 f1 f2) : g < W.heap.size := by
 obtain ⟨A0, c0, hb, hg, hr0⟩ := h
 exact blk_lt hb
theorem IsS113.ge {w0 W : World} {g : Nat} {f0 : List Int} {f1 : Int} {f2 : Int} (h : IsS113 w0 W g f0 f1 f2) : w0.heap.size ≤ g := by
 obtain ⟨A0, c0, hb, hg, hr0⟩ := h
 exact hg
theorem IsS113.ne_blk {w0 W : World} {g : Nat} {f0 : List Int} {f1 : Int} {f2 : Int} {a : Nat} {cs : Array Value} {t : TypeId} {fr : Nat × Nat} (h : IsS113 w0 W g f0 f1 f2) (hb2 : W.heap[a]? = some (.cells cs t fr)) (ht : t ≠ 113) : g ≠ a := by
 obtain ⟨A0, c0, hb, hg, hr0⟩ := h
 rintro rfl
 rw [hb] at hb2
 injection hb2 with hb2
 injection hb2 with _ ht2
 exact ht ht2.symm
theorem IsS113.far {w0 W : World} {g : Nat} {f0 : List Int} {f1 : Int} {f2 : Int} {p : Addr} (h : IsS113 w0 W g f0 f1 f2) (hne : g ≠ p.block) (u : Value) : IsS113 w0 (W.setCell p u) g f0 f1 f2 := by
 obtain ⟨A0, c0, hb, hg, hr0⟩ := h
 exact ⟨A0, c0, blk_far hb hne u, hg, hr0⟩
theorem cellS113_0 {W : World} {g : Nat} {A0 : Option Addr} {c0 : Nat} {f0 : List Int} {f1 : Int} {f2 : Int} (h : W.heap[g]? = some (.cells #[.slice A0 f0.length c0, .int .i64 f1, .int .i64 f2] 113 (0, 0))) : W.cell? ⟨g, 0, none⟩ = some (.slice A0 f0.length c0) := (blk_cell h 0).trans rfl
theorem cellS113_1 {W : World} {g : Nat} {A0 : Option Addr} {c0 : Nat} {f0 : List Int} {f1 : Int} {f2 : Int} (h : W.heap[g]? = some (.cells #[.slice A0 f0.length c0, .int .i64 f1, .int .i64 f2] 113 (0, 0))) : W.cell? ⟨g, 1, none⟩ = some (.int .i64 f1) := (blk_cell h 1).trans rfl
theorem IsS113.set_1 {w0 W : World} {g : Nat} {f0 : List Int} {f1 : Int} {f2 : Int} (h : IsS113 w0 W g f0 f1 f2) (x : Int) : IsS113 w0 (W.setCell ⟨g, 1, none⟩ (.int .i64 x)) g f0 x f2 := by
 obtain ⟨A0, c0, hb, hg, hr0⟩ := h
 exact ⟨A0, c0, by simpa using blk_set hb 1 (.int .i64 x), hg, hr0⟩
theorem cellS113_2 {W : World} {g : Nat} {A0 : Option Addr} {c0 : Nat} {f0 : List Int} {f1 : Int} {f2 : Int} (h : W.heap[g]? = some (.cells #[.slice A0 f0.length c0, .int .i64 f1, .int .i64 f2] 113 (0, 0))) : W.cell? ⟨g, 2, none⟩ = some (.int .i64 f2) := (blk_cell h 2).trans rfl
theorem IsS113.set_2 {w0 W : World} {g : Nat} {f0 : List Int} {f1 : Int} {f2 : Int} (h : IsS113 w0 W g f0 f1 f2) (x : Int) : IsS113 w0 (W.setCell ⟨g, 2, none⟩ (.int .i64 x)) g f0 f1 x := by
 obtain ⟨A0, c0, hb, hg, hr0⟩ := h
 exact ⟨A0, c0, by simpa using blk_set hb 2 (.int .i64 x), hg, hr0⟩
theorem IsS113.new (w0 W : World) (A0 : Option Addr) (c0 : Nat) (f0 : List Int) (f1 : Int) (f2 : Int) (hB : Below w0.heap.size w0 W) (hr0 : Kd.C (Kd.int .u8) w0 A0 f0.length f0) : IsS113 w0 (W.alloc (.cells #[.slice A0 f0.length c0, .int .i64 f1, .int .i64 f2] 113)) W.heap.size f0 f1 f2 := ⟨A0, c0, by simpa using heap_alloc_new W _, hB.size, hr0⟩

/-! ### spec_l1New: function 57 -/
def spec_l1New.l0 : Nat → List Int → Int → Int → Option (List Int × Int × Int)
 | 0, _, _, _ => none
 | k + 1, x0, x3, x4 => if x4 < (x0.length : Int) then (if x4 < 4000 then (if 0 ≤ x4 then (spec_l1New.l0 k x0 (Go.bits .and .i64 (wrap64 ((wrap64 ((wrap64 (x3 * 137)) + (wrap64 (rd x0 x4)))) + 11)) 1073741823) (wrap64 (x4 + 1))) else (none)) else (some (x0, 0, x3))) else (some (x0, 0, x3))
def spec_l1New.f (k : Nat) (l0 : List Int) : Option (List Int × Int × Int) := spec_l1New.l0 k l0 (wrap64 (275275 + (l0.length : Int))) 0
theorem spec_l1New.mono_l : ∀ k, (∀ y0 y1 y2, LeO (spec_l1New.l0 k y0 y1 y2) (spec_l1New.l0 (k + 1) y0 y1 y2))
 | 0 => fun _ _ _ r h => by simp [spec_l1New.l0] at h
 | k + 1 => by
  have ih0 := spec_l1New.mono_l k
  {
  intro y0 y1 y2
  unfold spec_l1New.l0
  exact qL
  }
theorem spec_l1New.mono : ∀ a0 k, LeO (spec_l1New.f k a0) (spec_l1New.f (k + 1) a0) := by
 intro a0 k
 have ih0 := spec_l1New.mono_l k
 unfold spec_l1New.f
 exact qL
set_option maxHeartbeats 8000000 in
set_option maxRecDepth 100000 in
theorem spec_l1New.calls (k : Nat) (A0 : Option Addr) (c0 : Nat) (l0 : List Int) (r1 : List Int) (r2 : Int) (r3 : Int) (w0 w : World) (hB : Below w0.heap.size w0 w) (hr0 : Kd.C (Kd.int .u8) w0 A0 l0.length l0) (hc0 : l0.length ≤ c0) (h : spec_l1New.f k l0 = some (r1, r2, r3)) :
  Calls Try.prog 57 #[.slice A0 l0.length c0] w fun e w' => ∃ g_ : Nat, e = .returned (.pointer (some ⟨g_, 0, none⟩)) ∧ IsS113 w0 w' g_ r1 r2 r3 ∧ Below w0.heap.size w0 w' ∧ Below w.heap.size w w' := by
 have hu113 := Try.underlying113
 have HR0 := aM hr0
 have HC0 := aM hc0
 clear hr0 hc0
 have HBW := aM (Below.refl w.heap.size w)
 have HW0 := aM hB.size
 have HB := aM hB
 clear hB
 have H : (spec_l1New.l0 k l0 (wrap64 (275275 + (l0.length : Int))) 0) = some (r1, r2, r3) := h
 clear h
 have H' := aM H
 clear H
 go_enter Try.func57, Try.ntmps57
 go_wp2
 go_loopg [3, 4] k (fun kq v3 v4 w' => ∃ (x3_1 : Int) (x4_1 : Int), v3 = .int .i64 x3_1 ∧ v4 = .int .i64 x4_1 ∧ Aside0 (spec_l1New.l0 kq l0 x3_1 x4_1 = some (r1, r2, r3)) ∧ Aside0 (kq ≤ k) ∧ Aside0 (Below w.heap.size w w') ∧ Aside0 (Below w0.heap.size w0 w'))
 case atStart => exact ⟨(wrap64 (275275 + (l0.length : Int))), (0), qz6, qz6, H', ⟨Nat.le_refl _⟩, ⟨qz9⟩, ⟨qz1⟩⟩
 case round =>
  clear H'
  obtain ⟨x3_1, x4_1, rfl, rfl, HA, HK1, HBW, HB⟩ := hrel
  cases gk with
  | zero => exact absurd HA.out (by simp [spec_l1New.l0])
  | succ k1 =>
   have H := HA.out
   clear HA
   simp only [spec_l1New.l0] at H
   by_cases c2 : x4_1 < (l0.length : Int)
   {
   rw [if_pos c2] at H
   have c2b0 := decide_eq_true c2
   clear c2
   by_cases c3 : x4_1 < 4000
   {
   rw [if_pos c3] at H
   have c3b0 := decide_eq_true c3
   clear c3
   by_cases c4 : 0 ≤ x4_1
   {
   rw [if_pos c4] at H
   have c4b0 := decide_eq_true c4
   clear c4
   have H' := aM H
   clear H
   have p101 : 0 ≤ (x4_1 : Int) := dt_
   have q101 : x4_1 < (l0.length : Int) := dt_
   obtain ⟨ad101, e101, hx101_0⟩ := Kd.at_int HR0.out x4_1 p101 q101
   cases e101
   replace hx101_0 := cB_ hx101_0
   replace p101 := eq_true p101
   replace q101 := eq_true q101
   go_wp2
   go_roundg k1
   case measure => have := HK1.out; omega
   case rel => exact ⟨(Go.bits .and .i64 (wrap64 ((wrap64 ((wrap64 (x3_1 * 137)) + (wrap64 (rd l0 x4_1)))) + 11)) 1073741823), (wrap64 (x4_1 + 1)), qz6, qz6, H', ⟨by have := HK1.out; omega⟩, ⟨qz9⟩, ⟨qz1⟩⟩
   }
   {
   exact an_ c4 H
   }
   }
   {
   rw [if_neg c3] at H
   have c3b0 := decide_eq_false c3
   clear c3
   simp only [Option.some.injEq, Prod.mk.injEq] at H
   obtain ⟨rfl, rfl, rfl⟩ := H
   go_wp2_with (first | ((with_reducible refine gate_dst (N := 31) rfl ?_); refine bx_ 31 #[.slice A0 l0.length c0, .int .i64 0, .int .i64 x3_1] 113 ?_; intro gb102 hg w5 hbox hb; replace HB := bS_ hb; have BK102 := aM (hbox); have GW102 := aM (bz_ w hg qz9); have GE102 := aM ((Nat.le_trans HW0.out (by rw [hg]; exact (below_size qz9) : w.heap.size ≤ gb102) : w0.heap.size ≤ gb102)); replace HBW := aM (below_step HBW.out hb); clear hb hbox hg))
   go_ret
   exact ⟨_, rfl, (show IsS113 w0 _ gb102 l0 0 x3_1 from ⟨_, _, by (with_reducible repeat (first | refine blk_drewN ?_ _ | refine blk_drew ?_ | refine blk_alloc ?_ _)); exact BK102.out, GE102.out, HR0.out⟩), qz1, qz9⟩
   }
   }
   {
   rw [if_neg c2] at H
   have c2b0 := decide_eq_false c2
   clear c2
   simp only [Option.some.injEq, Prod.mk.injEq] at H
   obtain ⟨rfl, rfl, rfl⟩ := H
   go_wp2_with (first | ((with_reducible refine gate_dst (N := 31) rfl ?_); refine bx_ 31 #[.slice A0 l0.length c0, .int .i64 0, .int .i64 x3_1] 113 ?_; intro gb103 hg w6 hbox hb; replace HB := bS_ hb; have BK103 := aM (hbox); have GW103 := aM (bz_ w hg qz9); have GE103 := aM ((Nat.le_trans HW0.out (by rw [hg]; exact (below_size qz9) : w.heap.size ≤ gb103) : w0.heap.size ≤ gb103)); replace HBW := aM (below_step HBW.out hb); clear hb hbox hg))
   go_ret
   exact ⟨_, rfl, (show IsS113 w0 _ gb103 l0 0 x3_1 from ⟨_, _, by (with_reducible repeat (first | refine blk_drewN ?_ _ | refine blk_drew ?_ | refine blk_alloc ?_ _)); exact BK103.out, GE103.out, HR0.out⟩), qz1, qz9⟩

   }
/-! ### spec_l1Byte: function 102 -/
def spec_l1Byte.f (s0_0 : List Int) (s0_1 : Int) (s0_2 : Int) : Option (Int × Int × Int) := if s0_1 < (s0_0.length : Int) then (if 0 ≤ s0_1 then (some (Go.bits .and .i64 (wrap64 ((Go.bits .and .i64 (Go.bits .xor .i64 ((wrap64 ((wrap64 (s0_2 * 6364136223846793005)) + 1442695040888963407)) / 8589934592) ((wrap64 ((wrap64 (s0_2 * 6364136223846793005)) + 1442695040888963407)) / 140737488355328)) 255) + (wrap64 (rd s0_0 s0_1)))) 255, wrap64 (s0_1 + 1), wrap64 ((wrap64 (s0_2 * 6364136223846793005)) + 1442695040888963407))) else (none)) else (some (Go.bits .and .i64 (Go.bits .xor .i64 ((wrap64 ((wrap64 (s0_2 * 6364136223846793005)) + 1442695040888963407)) / 8589934592) ((wrap64 ((wrap64 (s0_2 * 6364136223846793005)) + 1442695040888963407)) / 140737488355328)) 255, s0_1, wrap64 ((wrap64 (s0_2 * 6364136223846793005)) + 1442695040888963407)))
set_option maxHeartbeats 8000000 in
set_option maxRecDepth 100000 in
theorem spec_l1Byte.calls (g : Nat) (s0_0 : List Int) (s0_1 : Int) (s0_2 : Int) (r1 : Int) (r2 : Int) (r3 : Int) (w0 w : World) (hI : IsS113 w0 w g s0_0 s0_1 s0_2) (hB : Below w0.heap.size w0 w) (h : spec_l1Byte.f s0_0 s0_1 s0_2 = some (r1, r2, r3)) :
  Calls Try.prog 102 #[.pointer (some ⟨g, 0, none⟩)] w fun e w' => e = .returned (.int .i64 r1) ∧ IsS113 w0 w' g s0_0 r2 r3 ∧ Below w0.heap.size w0 w' ∧ KeepBut w w' g none := by
 have HI0 := aM hI
 have HK := aM (KeepBut.refl w g none)
 have HL := aM hB.size
 clear hI
 have HW0 := aM hB.size
 have HB := aM hB
 clear hB
 have H : (if s0_1 < (s0_0.length : Int) then (if 0 ≤ s0_1 then (some (Go.bits .and .i64 (wrap64 ((Go.bits .and .i64 (Go.bits .xor .i64 ((wrap64 ((wrap64 (s0_2 * 6364136223846793005)) + 1442695040888963407)) / 8589934592) ((wrap64 ((wrap64 (s0_2 * 6364136223846793005)) + 1442695040888963407)) / 140737488355328)) 255) + (wrap64 (rd s0_0 s0_1)))) 255, wrap64 (s0_1 + 1), wrap64 ((wrap64 (s0_2 * 6364136223846793005)) + 1442695040888963407))) else (none)) else (some (Go.bits .and .i64 (Go.bits .xor .i64 ((wrap64 ((wrap64 (s0_2 * 6364136223846793005)) + 1442695040888963407)) / 8589934592) ((wrap64 ((wrap64 (s0_2 * 6364136223846793005)) + 1442695040888963407)) / 140737488355328)) 255, s0_1, wrap64 ((wrap64 (s0_2 * 6364136223846793005)) + 1442695040888963407)))) = some (r1, r2, r3) := h
 clear h
 by_cases c2 : s0_1 < (s0_0.length : Int)
 {
 rw [if_pos c2] at H
 have c2b0 := decide_eq_true c2
 clear c2
 by_cases c3 : 0 ≤ s0_1
 {
 rw [if_pos c3] at H
 have c3b0 := decide_eq_true c3
 clear c3
 simp only [Option.some.injEq, Prod.mk.injEq] at H
 obtain ⟨rfl, rfl, rfl⟩ := H
 obtain ⟨ASz4_0, cSz4_0, HGz4, hgz4, HSz4_0⟩ := HI0.out
 have hcz4_0 := cellS113_0 HGz4
 have hcz4_1 := cellS113_1 HGz4
 have hcz4_2 := cellS113_2 HGz4
 have hfz4_1 := blk_frozen HGz4 1
 have hfz4_2 := blk_frozen HGz4 2
 clear HGz4 hgz4
 have p104 : 0 ≤ (s0_1 : Int) := dt_
 have q104 : s0_1 < (s0_0.length : Int) := dt_
 obtain ⟨ad104, e104, hx104_0⟩ := Kd.at_int HSz4_0 s0_1 p104 q104
 cases e104
 have hn104_0 : ad104.block ≠ g := Nat.ne_of_lt (Nat.lt_of_lt_of_le (by have := World.block_lt_of_cell? _ _ hx104_0; first | rwa [add_block] at this | exact this) (IsS113.ge HI0.out))
 replace hx104_0 := cB_ hx104_0
 replace hx104_0 := (cell_far (p := ⟨g, 2, none⟩) (by first | (rw [add_block]; exact hn104_0) | (show (Addr.add _ _).block ≠ _; rw [add_block]; exact hn104_0) | exact hn104_0) (.int .i64 (wrap64 ((wrap64 (s0_2 * 6364136223846793005)) + 1442695040888963407)))).trans hx104_0
 (try have hy104_0 := fun (n_ : Nat) => (show (((w.drewN n_).setCell ⟨g, 2, none⟩ (.int .i64 (wrap64 ((wrap64 (s0_2 * 6364136223846793005)) + 1442695040888963407))))).cell? _ = some _ from hx104_0))
 clear hn104_0
 replace p104 := eq_true p104
 replace q104 := eq_true q104
 go_enter Try.func102, Try.ntmps102
 go_wp2
 repeat (go_quiet (fail); try go_wp2)
 go_ret
 exact ⟨qzw, qz3, qz1, qz2⟩
 }
 {
 exact an_ c3 H
 }
 }
 {
 rw [if_neg c2] at H
 have c2b0 := decide_eq_false c2
 clear c2
 simp only [Option.some.injEq, Prod.mk.injEq] at H
 obtain ⟨rfl, rfl, rfl⟩ := H
 obtain ⟨ASz5_0, cSz5_0, HGz5, hgz5, HSz5_0⟩ := HI0.out
 have hcz5_0 := cellS113_0 HGz5
 have hcz5_1 := cellS113_1 HGz5
 have hcz5_2 := cellS113_2 HGz5
 have hfz5_1 := blk_frozen HGz5 1
 have hfz5_2 := blk_frozen HGz5 2
 clear HGz5 hgz5
 go_enter Try.func102, Try.ntmps102
 go_wp2
 repeat (go_quiet (fail); try go_wp2)
 go_ret
 exact ⟨qzw, qz3, qz1, qz2⟩

 }
/-! ### spec_l1Below: function 73 -/
def spec_l1Below.f (s0_0 : List Int) (s0_1 : Int) (s0_2 : Int) (a1 : Int) : Option (Int × Int × Int) := if a1 ≤ 0 then (some (0, s0_1, s0_2)) else (if a1 ≤ 256 then ((spec_l1Byte.f s0_0 s0_1 s0_2).bind fun bt105 => (if a1 = 0 then (none) else (some (Int.tmod bt105.1 a1, bt105.2.1, bt105.2.2)))) else ((spec_l1Byte.f s0_0 s0_1 s0_2).bind fun bt108 => ((spec_l1Byte.f s0_0 bt108.2.1 bt108.2.2).bind fun bt111 => ((spec_l1Byte.f s0_0 bt111.2.1 bt111.2.2).bind fun bt114 => (if a1 = 0 then (none) else (some (Int.tmod (wrap64 ((wrap64 ((wrap64 (bt108.1 * 65536)) + (wrap64 (bt111.1 * 256)))) + bt114.1)) a1, bt114.2.1, bt114.2.2)))))))
set_option maxHeartbeats 8000000 in
set_option maxRecDepth 100000 in
theorem spec_l1Below.calls (g : Nat) (s0_0 : List Int) (s0_1 : Int) (s0_2 : Int) (a1 : Int) (r1 : Int) (r2 : Int) (r3 : Int) (w0 w : World) (hI : IsS113 w0 w g s0_0 s0_1 s0_2) (hB : Below w0.heap.size w0 w) (h : spec_l1Below.f s0_0 s0_1 s0_2 a1 = some (r1, r2, r3)) :
  Calls Try.prog 73 #[.pointer (some ⟨g, 0, none⟩), .int .i64 a1] w fun e w' => e = .returned (.int .i64 r1) ∧ IsS113 w0 w' g s0_0 r2 r3 ∧ Below w0.heap.size w0 w' ∧ KeepBut w w' g none := by
 have HI0 := aM hI
 have HK := aM (KeepBut.refl w g none)
 have HL := aM hB.size
 clear hI
 have HW0 := aM hB.size
 have HB := aM hB
 clear hB
 have H : (if a1 ≤ 0 then (some (0, s0_1, s0_2)) else (if a1 ≤ 256 then ((spec_l1Byte.f s0_0 s0_1 s0_2).bind fun bt105 => (if a1 = 0 then (none) else (some (Int.tmod bt105.1 a1, bt105.2.1, bt105.2.2)))) else ((spec_l1Byte.f s0_0 s0_1 s0_2).bind fun bt108 => ((spec_l1Byte.f s0_0 bt108.2.1 bt108.2.2).bind fun bt111 => ((spec_l1Byte.f s0_0 bt111.2.1 bt111.2.2).bind fun bt114 => (if a1 = 0 then (none) else (some (Int.tmod (wrap64 ((wrap64 ((wrap64 (bt108.1 * 65536)) + (wrap64 (bt111.1 * 256)))) + bt114.1)) a1, bt114.2.1, bt114.2.2)))))))) = some (r1, r2, r3) := h
 clear h
 by_cases c3 : a1 ≤ 0
 {
 rw [if_pos c3] at H
 have c3b0 := decide_eq_true c3
 clear c3
 simp only [Option.some.injEq, Prod.mk.injEq] at H
 obtain ⟨rfl, rfl, rfl⟩ := H
 go_enter Try.func73, Try.ntmps73
 go_wp2
 go_ret
 exact ⟨qzw, qz3, qz1, qz2⟩
 }
 {
 rw [if_neg c3] at H
 have c3b0 := decide_eq_false c3
 clear c3
 by_cases c4 : a1 ≤ 256
 {
 rw [if_pos c4] at H
 have c4b0 := decide_eq_true c4
 clear c4
 replace H := Option.bind_eq_some_iff.mp H
 obtain ⟨⟨t105, t106, t107⟩, A50, H⟩ := H
 replace H : (if a1 = 0 then (none) else (some (Int.tmod t105 a1, t106, t107))) = some (r1, r2, r3) := H
 have A5 := aM A50
 clear A50
 by_cases c6 : a1 = 0
 {
 exact ap_ c6 H
 }
 {
 rw [if_neg c6] at H
 have c6b0 := beq_eq_false_iff_ne.mpr c6
 have c6b1 := bne_iff_ne.mpr c6
 simp only [Option.some.injEq, Prod.mk.injEq] at H
 obtain ⟨rfl, rfl, rfl⟩ := H
 go_enter Try.func73, Try.ntmps73
 go_wp2_with (first | ((with_reducible refine gate_callee (f := 102) rfl ?_); refine goesL_ (some 13) rfl rfl Try.func102 (by kernel_rfl) rfl #[.pointer (some ⟨g, 0, none⟩)] rfl qz4 ?_; (with_reducible refine (spec_l1Byte.calls g s0_0 s0_1 s0_2 t105 t106 t107 w0 _ ?side1 ?side2 A5.out).mono ?_); (case side1 => exact qz3); (case side2 => exact qz1); rintro e w7 ⟨rfl, hi, hb, hk⟩; refine ⟨_, rfl, ?_⟩; replace HK := aM (KeepBut.trans qz2 hk (.inl rfl)); replace HB := aM (hb); replace HI0 := aM (hi); (try clear hb hk hi)))
 go_ret
 exact ⟨qzw, qz3, qz1, qz2⟩
 }
 }
 {
 rw [if_neg c4] at H
 have c4b0 := decide_eq_false c4
 clear c4
 replace H := Option.bind_eq_some_iff.mp H
 obtain ⟨⟨t108, t109, t110⟩, A80, H⟩ := H
 replace H : ((spec_l1Byte.f s0_0 t109 t110).bind fun bt111 => ((spec_l1Byte.f s0_0 bt111.2.1 bt111.2.2).bind fun bt114 => (if a1 = 0 then (none) else (some (Int.tmod (wrap64 ((wrap64 ((wrap64 (t108 * 65536)) + (wrap64 (bt111.1 * 256)))) + bt114.1)) a1, bt114.2.1, bt114.2.2))))) = some (r1, r2, r3) := H
 have A8 := aM A80
 clear A80
 replace H := Option.bind_eq_some_iff.mp H
 obtain ⟨⟨t111, t112, t113⟩, A90, H⟩ := H
 replace H : ((spec_l1Byte.f s0_0 t112 t113).bind fun bt114 => (if a1 = 0 then (none) else (some (Int.tmod (wrap64 ((wrap64 ((wrap64 (t108 * 65536)) + (wrap64 (t111 * 256)))) + bt114.1)) a1, bt114.2.1, bt114.2.2)))) = some (r1, r2, r3) := H
 have A9 := aM A90
 clear A90
 replace H := Option.bind_eq_some_iff.mp H
 obtain ⟨⟨t114, t115, t116⟩, A100, H⟩ := H
 replace H : (if a1 = 0 then (none) else (some (Int.tmod (wrap64 ((wrap64 ((wrap64 (t108 * 65536)) + (wrap64 (t111 * 256)))) + t114)) a1, t115, t116))) = some (r1, r2, r3) := H
 have A10 := aM A100
 clear A100
 by_cases c11 : a1 = 0
 {
 exact ap_ c11 H
 }
 {
 rw [if_neg c11] at H
 have c11b0 := beq_eq_false_iff_ne.mpr c11
 have c11b1 := bne_iff_ne.mpr c11
 simp only [Option.some.injEq, Prod.mk.injEq] at H
 obtain ⟨rfl, rfl, rfl⟩ := H
 go_enter Try.func73, Try.ntmps73
 go_wp2_with (first | ((with_reducible refine gate_callee (f := 102) rfl ?_); refine goesL_ (some 17) rfl rfl Try.func102 (by kernel_rfl) rfl #[.pointer (some ⟨g, 0, none⟩)] rfl qz4 ?_; (with_reducible refine (spec_l1Byte.calls g s0_0 s0_1 s0_2 t108 t109 t110 w0 _ ?side1 ?side2 A8.out).mono ?_); (case side1 => exact qz3); (case side2 => exact qz1); rintro e w12 ⟨rfl, hi, hb, hk⟩; refine ⟨_, rfl, ?_⟩; replace HK := aM (KeepBut.trans qz2 hk (.inl rfl)); replace HB := aM (hb); replace HI0 := aM (hi); (try clear hb hk hi)) | ((with_reducible refine gate_callee (f := 102) rfl ?_); refine goesL_ (some 19) rfl rfl Try.func102 (by kernel_rfl) rfl #[.pointer (some ⟨g, 0, none⟩)] rfl qz4 ?_; (with_reducible refine (spec_l1Byte.calls g s0_0 t109 t110 t111 t112 t113 w0 _ ?side1 ?side2 A9.out).mono ?_); (case side1 => exact qz3); (case side2 => exact qz1); rintro e w13 ⟨rfl, hi, hb, hk⟩; refine ⟨_, rfl, ?_⟩; replace HK := aM (KeepBut.trans qz2 hk (.inl rfl)); replace HB := aM (hb); replace HI0 := aM (hi); (try clear hb hk hi)) | ((with_reducible refine gate_callee (f := 102) rfl ?_); refine goesL_ (some 21) rfl rfl Try.func102 (by kernel_rfl) rfl #[.pointer (some ⟨g, 0, none⟩)] rfl qz4 ?_; (with_reducible refine (spec_l1Byte.calls g s0_0 t112 t113 t114 t115 t116 w0 _ ?side1 ?side2 A10.out).mono ?_); (case side1 => exact qz3); (case side2 => exact qz1); rintro e w14 ⟨rfl, hi, hb, hk⟩; refine ⟨_, rfl, ?_⟩; replace HK := aM (KeepBut.trans qz2 hk (.inl rfl)); replace HB := aM (hb); replace HI0 := aM (hi); (try clear hb hk hi)))
 go_ret
 exact ⟨qzw, qz3, qz1, qz2⟩

 }
 }
 }
/-! ### spec_l1Once: function 80 -/
def spec_l1Once.f (s0_0 : List Int) (s0_1 : Int) (s0_2 : Int) (a1 : Int) : Option (Bool × Int × Int) := (spec_l1Below.f s0_0 s0_1 s0_2 a1).bind fun bt117 => (some ((bt117.1 == 0), bt117.2.1, bt117.2.2))
set_option maxHeartbeats 8000000 in
set_option maxRecDepth 100000 in
theorem spec_l1Once.calls (g : Nat) (s0_0 : List Int) (s0_1 : Int) (s0_2 : Int) (a1 : Int) (r1 : Bool) (r2 : Int) (r3 : Int) (w0 w : World) (hI : IsS113 w0 w g s0_0 s0_1 s0_2) (hB : Below w0.heap.size w0 w) (h : spec_l1Once.f s0_0 s0_1 s0_2 a1 = some (r1, r2, r3)) :
  Calls Try.prog 80 #[.pointer (some ⟨g, 0, none⟩), .int .i64 a1] w fun e w' => e = .returned (.bool r1) ∧ IsS113 w0 w' g s0_0 r2 r3 ∧ Below w0.heap.size w0 w' ∧ KeepBut w w' g none := by
 have HI0 := aM hI
 have HK := aM (KeepBut.refl w g none)
 have HL := aM hB.size
 clear hI
 have HW0 := aM hB.size
 have HB := aM hB
 clear hB
 have H : ((spec_l1Below.f s0_0 s0_1 s0_2 a1).bind fun bt117 => (some ((bt117.1 == 0), bt117.2.1, bt117.2.2))) = some (r1, r2, r3) := h
 clear h
 replace H := Option.bind_eq_some_iff.mp H
 obtain ⟨⟨t117, t118, t119⟩, A30, H⟩ := H
 replace H : (some ((t117 == 0), t118, t119)) = some (r1, r2, r3) := H
 have A3 := aM A30
 clear A30
 simp only [Option.some.injEq, Prod.mk.injEq] at H
 obtain ⟨rfl, rfl, rfl⟩ := H
 go_enter Try.func80, Try.ntmps80
 go_wp2_with (first | ((with_reducible refine gate_callee (f := 73) rfl ?_); refine goesL_ (some 7) rfl rfl Try.func73 (by kernel_rfl) rfl #[.pointer (some ⟨g, 0, none⟩), .int .i64 a1] rfl qz4 ?_; (with_reducible refine (spec_l1Below.calls g s0_0 s0_1 s0_2 a1 t117 t118 t119 w0 _ ?side1 ?side2 A3.out).mono ?_); (case side1 => exact qz3); (case side2 => exact qz1); rintro e w4 ⟨rfl, hi, hb, hk⟩; refine ⟨_, rfl, ?_⟩; replace HK := aM (KeepBut.trans qz2 hk (.inl rfl)); replace HB := aM (hb); replace HI0 := aM (hi); (try clear hb hk hi)))
 go_ret
 exact ⟨qzw, qz3, qz1, qz2⟩

/-! ### spec_l1Int: function 81 -/
def spec_l1Int.f (s0_0 : List Int) (s0_1 : Int) (s0_2 : Int) (l1 : List Int) : Option (Int × Int × Int) := (spec_l1Below.f s0_0 s0_1 s0_2 (l1.length : Int)).bind fun bt120 => (if 0 ≤ bt120.1 then (if bt120.1 < (l1.length : Int) then (some (rd l1 bt120.1, bt120.2.1, bt120.2.2)) else (none)) else (none))
set_option maxHeartbeats 8000000 in
set_option maxRecDepth 100000 in
theorem spec_l1Int.calls (g : Nat) (s0_0 : List Int) (s0_1 : Int) (s0_2 : Int) (A1 : Option Addr) (c1 : Nat) (l1 : List Int) (r1 : Int) (r2 : Int) (r3 : Int) (w0 w : World) (hI : IsS113 w0 w g s0_0 s0_1 s0_2) (hB : Below w0.heap.size w0 w) (hr1 : Kd.C (Kd.int .i64) w A1 l1.length l1) (hc1 : l1.length ≤ c1) (hf1 : ∀ ad, A1 = some ad → 0 < l1.length → ad.block ≠ g) (h : spec_l1Int.f s0_0 s0_1 s0_2 l1 = some (r1, r2, r3)) :
  Calls Try.prog 81 #[.pointer (some ⟨g, 0, none⟩), .slice A1 l1.length c1] w fun e w' => e = .returned (.int .i64 r1) ∧ IsS113 w0 w' g s0_0 r2 r3 ∧ Below w0.heap.size w0 w' ∧ KeepBut w w' g none := by
 have HR1 := aM hr1
 have HC1 := aM hc1
 clear hr1 hc1
 have HI0 := aM hI
 have HK := aM (KeepBut.refl w g none)
 have HL := aM hB.size
 clear hI
 have HW0 := aM hB.size
 have HB := aM hB
 clear hB
 have H : ((spec_l1Below.f s0_0 s0_1 s0_2 (l1.length : Int)).bind fun bt120 => (if 0 ≤ bt120.1 then (if bt120.1 < (l1.length : Int) then (some (rd l1 bt120.1, bt120.2.1, bt120.2.2)) else (none)) else (none))) = some (r1, r2, r3) := h
 clear h
 replace H := Option.bind_eq_some_iff.mp H
 obtain ⟨⟨t120, t121, t122⟩, A30, H⟩ := H
 replace H : (if 0 ≤ t120 then (if t120 < (l1.length : Int) then (some (rd l1 t120, t121, t122)) else (none)) else (none)) = some (r1, r2, r3) := H
 have A3 := aM A30
 clear A30
 by_cases c4 : 0 ≤ t120
 {
 rw [if_pos c4] at H
 have c4b0 := decide_eq_true c4
 clear c4
 by_cases c5 : t120 < (l1.length : Int)
 {
 rw [if_pos c5] at H
 have c5b0 := decide_eq_true c5
 clear c5
 simp only [Option.some.injEq, Prod.mk.injEq] at H
 obtain ⟨rfl, rfl, rfl⟩ := H
 go_enter Try.func81, Try.ntmps81
 go_wp2_with (first | ((with_reducible refine gate_callee (f := 73) rfl ?_); refine goesL_ (some 9) rfl rfl Try.func73 (by kernel_rfl) rfl #[.pointer (some ⟨g, 0, none⟩), .int .i64 (l1.length : Int)] rfl qz4 ?_; (with_reducible refine (spec_l1Below.calls g s0_0 s0_1 s0_2 (l1.length : Int) t120 t121 t122 w0 _ ?side1 ?side2 A3.out).mono ?_); (case side1 => exact qz3); (case side2 => exact qz1); rintro e w6 ⟨rfl, hi, hb, hk⟩; refine ⟨_, rfl, ?_⟩; replace HK := aM (KeepBut.trans qz2 hk (.inl rfl)); replace HB := aM (hb); replace HI0 := aM (hi); (try clear hb hk hi); have p123 : 0 ≤ (t120 : Int) := dt_; have q123 : t120 < (l1.length : Int) := dt_; obtain ⟨ad123, e123, hx123_0⟩ := Kd.at_int HR1.out t120 p123 q123; cases e123; replace hx123_0 := keep_cell HK.out hx123_0 (by first | (rw [add_block]; exact hf1 _ rfl (by omega)) | exact hf1 _ rfl (by omega) | exact hf1 ad123 rfl (by omega)); replace p123 := eq_true p123; replace q123 := eq_true q123))
 go_ret
 exact ⟨qzw, qz3, qz1, qz2⟩
 }
 {
 exact an_ c5 H
 }
 }
 {
 exact an_ c4 H

 }
/-! ### spec_l1In: function 98 -/
def spec_l1In.f (a0 : Int) (a1 : Int) (a2 : Int) : Option (Bool) := if a0 ≥ a1 then (some (decide (a0 ≤ a2))) else (some false)
set_option maxHeartbeats 8000000 in
set_option maxRecDepth 100000 in
theorem spec_l1In.calls (a0 : Int) (a1 : Int) (a2 : Int) (r : Bool) (w : World) (h : spec_l1In.f a0 a1 a2 = some r) :
  Calls Try.prog 98 #[.int .i64 a0, .int .i64 a1, .int .i64 a2] w fun e w' => e = .returned (.bool r) ∧ Drawn0 w w' := by
 have H : (if a0 ≥ a1 then (some (decide (a0 ≤ a2))) else (some false)) = some r := h
 clear h
 by_cases c4 : a0 ≥ a1
 {
 rw [if_pos c4] at H
 have c4b0 := decide_eq_true c4
 clear c4
 obtain rfl := Option.some.inj H
 simp only [Option.some.injEq, Prod.mk.injEq] at H
 obtain ⟨rfl⟩ := H
 go_enter Try.func98, Try.ntmps98
 go_wp2
 go_ret
 exact ⟨by first | rfl | (simp; done) | (simp [*]; done), by repeat (first | exact Drawn0.refl _ | apply Drawn0.step)⟩
 }
 {
 rw [if_neg c4] at H
 have c4b0 := decide_eq_false c4
 clear c4
 obtain rfl := Option.some.inj H
 simp only [Option.some.injEq, Prod.mk.injEq] at H
 obtain ⟨rfl⟩ := H
 go_enter Try.func98, Try.ntmps98
 go_wp2
 go_ret
 exact ⟨by first | rfl | (simp; done) | (simp [*]; done), by repeat (first | exact Drawn0.refl _ | apply Drawn0.step)⟩

 }
end Go.Proofs.Ytankmdbbgepmbaa.PFnTurns
