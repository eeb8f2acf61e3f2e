-- Made by a program of this session out of the translation. Lean checks it.
import Derived.Test.YtankmdbbgepmbaaPFnLivelyx0
namespace Go.Proofs.Ytankmdbbgepmbaa.PFnLively
open Go.RowKit Go.Proofs.YtankmdbbgepmbaaW.PrintWords Go.Proofs.YtankmdbbgepmbaaW.PrintLast Go.Proofs.YtankmdbbgepmbaaW.PrintMore
attribute [local go_sem] max2_int min2_int max_two min_two max_three min_three max_four min_four   -- for this text's walks alone
set_option linter.unusedVariables false
set_option linter.unusedSimpArgs false

-- NOT PRINTED: function 93 (reflectlite_ValueOf)

-- NOT PRINTED: function 94 (reflectlite_Swapper)

-- NOT PRINTED: function 121 (sort_insertionSort_func)

-- NOT PRINTED: function 134 (sort_swapRange_func)

-- NOT PRINTED: function 131 (sort_rotate_func)

-- NOT PRINTED: function 122 (sort_symMerge_func)

-- NOT PRINTED: function 95 (sort_stable_func)

-- NOT PRINTED: function 96 (reflectlite_Value_Len)

-- NOT PRINTED: function 54 (sort_SliceStable)

/-! ### impl_Turns: function 17 -/
def impl_TurnsL.T1 : Bool × List (List Nat × List Nat) := (true, [([], []), ([], []), ([], []), ([1, 2], [1, 2]), ([3], [3]), ([0, 4], [0, 4]), ([5], [5]), ([], []), ([], []), ([], []), ([8, 9], [8, 9]), ([10], [10]), ([7, 11], [7, 11]), ([12], [12]), ([], []), ([], []), ([14, 6, 0, 1, 2, 3, 4, 5, 6, 14, 15], [6, 14]), ([15, 13, 16, 0, 1, 2, 3, 4, 5, 6, 7, 8, 9, 10, 11, 12, 13, 14, 15, 16], [13, 15])])
def impl_TurnsL.B1 : List Nat := [0, 0, 0, 6, 14, 31, 63, 0, 0, 0, 768, 1792, 3968, 8064, 0, 0, 49279, 131071]
theorem impl_TurnsL.tab1 : rtab .any (opsOf Try.f55 1) = impl_TurnsL.T1 := by kernel_rfl
theorem impl_TurnsL.bits1 : waitsOk impl_TurnsL.T1.2 impl_TurnsL.B1 = true := by kernel_rfl
def turnsLt (l : List S37) (a b : Int) : Bool := decide ((rd_T37 l a).f4 > (rd_T37 l b).f4) || (decide ((rd_T37 l a).f4 = (rd_T37 l b).f4) && decide ((rd_T37 l a).f0 < (rd_T37 l b).f0))
set_option maxHeartbeats 8000000 in
set_option maxRecDepth 100000 in
theorem impl_TurnsL.calls (A0 : Option Addr) (c0 : Nat) (l0 : List S37) (W : World) (hr0 : Kd.C k37 W A0 l0.length l0) (b1 b2 g n c : Nat) (ia ib : Nat) (x y : Int) (hb1 : W.cell? ⟨b1, 0, none⟩ = some (.slice A0 l0.length c0)) (hb2 : W.cell? ⟨b2, 0, none⟩ = some (.slice (some ⟨g, 0, none⟩) n c))
  (hi : ia < n) (hj : ib < n) (hx : W.cell? ⟨g, ia, none⟩ = some (.int .i64 x)) (hy : W.cell? ⟨g, ib, none⟩ = some (.int .i64 y)) (hx0 : 0 ≤ x) (hx1 : x < (l0.length : Int)) (hy0 : 0 ≤ y) (hy1 : y < (l0.length : Int)) :
  Calls Try.prog 55 #[.int .i64 ia, .int .i64 ib, .pointer (some ⟨b1, 0, none⟩), .pointer (some ⟨b2, 0, none⟩)] W fun e w' => e = .returned (.bool (turnsLt l0 x y)) ∧ Below W.heap.size W w' := by
 have hu37 := Try.underlying37
 have hu24 := Try.underlying24
 have hu26 := Try.underlying26
 obtain ⟨adx, ex, x0, x1, x2, x3, x4⟩ := at_T37 hr0 x hx0 hx1
 obtain ⟨ady, ey, y0, y1, y2, y3, y4⟩ := at_T37 hr0 y hy0 hy1
 subst ex
 cases ey
 have hn0 : 0 < n := by omega
 have Hb1 := aM hb1
 have Hb2 := aM hb2
 have Hx := aM hx
 have Hy := aM hy
 have X0 := aM x0
 have Y0 := aM y0
 have X1 := aM x1
 have Y1 := aM y1
 have X2 := aM x2
 have Y2 := aM y2
 have X3 := aM x3
 have Y3 := aM y3
 have X4 := aM x4
 have Y4 := aM y4
 go_enter Try.func55, Try.ntmps55
 go_wp2
 refine start_ (n := 18) (S := fun w' => w'.cell? ⟨b1, 0, none⟩ = some (.slice (some adx) l0.length c0) ∧ w'.cell? ⟨b2, 0, none⟩ = some (.slice (some ⟨g, 0, none⟩) n c) ∧ w'.cell? ⟨g, ia, none⟩ = some (.int .i64 x) ∧ w'.cell? ⟨g, ib, none⟩ = some (.int .i64 y) ∧ w'.cell? (adx.add (x.toNat * 5)) = some (.int .i64 (rd_T37 l0 x).f0) ∧ w'.cell? ⟨(adx.add (x.toNat * 5)).block, (adx.add (x.toNat * 5)).off + 1, none⟩ = some (.int .i64 (rd_T37 l0 x).f1) ∧ w'.cell? ⟨(adx.add (x.toNat * 5)).block, (adx.add (x.toNat * 5)).off + 2, none⟩ = some (.int .i64 (rd_T37 l0 x).f2) ∧ w'.cell? ⟨(adx.add (x.toNat * 5)).block, (adx.add (x.toNat * 5)).off + 3, none⟩ = some (.bool (rd_T37 l0 x).f3) ∧ w'.cell? ⟨(adx.add (x.toNat * 5)).block, (adx.add (x.toNat * 5)).off + 4, none⟩ = some (.int .i64 (rd_T37 l0 x).f4) ∧ w'.cell? (adx.add (y.toNat * 5)) = some (.int .i64 (rd_T37 l0 y).f0) ∧ w'.cell? ⟨(adx.add (y.toNat * 5)).block, (adx.add (y.toNat * 5)).off + 1, none⟩ = some (.int .i64 (rd_T37 l0 y).f1) ∧ w'.cell? ⟨(adx.add (y.toNat * 5)).block, (adx.add (y.toNat * 5)).off + 2, none⟩ = some (.int .i64 (rd_T37 l0 y).f2) ∧ w'.cell? ⟨(adx.add (y.toNat * 5)).block, (adx.add (y.toNat * 5)).off + 3, none⟩ = some (.bool (rd_T37 l0 y).f3) ∧ w'.cell? ⟨(adx.add (y.toNat * 5)).block, (adx.add (y.toNat * 5)).off + 4, none⟩ = some (.int .i64 (rd_T37 l0 y).f4)) (ds := [17]) #[false, false, false, false, false, false, false, false, false, false, false, false, false, false, false, false, false, false] (by kernel_rfl) rfl rfl ⟨hb1, hb2, hx, hy, x0, x1, x2, x3, x4, y0, y1, y2, y3, y4⟩ (fun hHeld => ?_); refine with_tabW impl_TurnsL.tab1 impl_TurnsL.bits1 (fun HT_ HW_ => ?_)
 refine pI_ 2 11 (bqz 18 4) ?_
 refine jI_ 9 18 ?_
 refine sI14_ 0 9 ?_
 refine sI14_ 1 10 ?_
 refine jI_ 3 12 ?_
 refine sI14_ 4 13 ?_
 refine jI_ 5 14 ?_
 refine sI14_ 6 15 ?_
 refine sI14_ 7 16 ?_
 refine sI14_ 8 17 ?_
 refine jI_ 10 19 ?_
 refine sI14_ 11 20 ?_
 refine jI_ 12 21 ?_
 refine sI14_ 13 22 ?_
 have HB0 : Below W.heap.size W W.drew := below_drew (Below.refl _ _)
 refine two_ (i := 14) (j := 15) (Ni := some 7) (Nj := some 8) (bqz 18 32767) (bqz 18 49151) rfl rfl rfl rfl (two_of HT_.out (by kernel_rfl)) (by decide) (by decide) (fun K hK => ?_) (fun K hK => ?_)
 {
 have L0 : W.heap.size ≤ W.drew.heap.size := Nat.le_refl _
 refine box_step (by rfl) (N := 7) rfl (cs := #[.int .i64 0, .int .i64 0, .int .i64 0, .bool false, .int .i64 0]) (t := 37) ?hr ?_; (case hr => exact qz7); intro gx hgx w1 Bgx hb; have HB1 := below_step HB0 hb; clear hb
 refine hK.out _ _ ⟨pw_cell_below HB1 Hb1.out, pw_cell_below HB1 Hb2.out, pw_cell_below HB1 Hx.out, pw_cell_below HB1 Hy.out, pw_cell_below HB1 X0.out, pw_cell_below HB1 X1.out, pw_cell_below HB1 X2.out, pw_cell_below HB1 X3.out, pw_cell_below HB1 X4.out, pw_cell_below HB1 Y0.out, pw_cell_below HB1 Y1.out, pw_cell_below HB1 Y2.out, pw_cell_below HB1 Y3.out, pw_cell_below HB1 Y4.out⟩ (fun hHeld => ?_)
 clear hK K
 refine nm_ 7 ?_
 have Ggx := Nat.le_trans L0 (Nat.le_of_eq hgx.symm)
 refine oI_ 15 8 (bqz 18 65535) (fun K hK => ?_)
 have L1 := below_size HB1
 have bl_ := blk_lt Bgx
 refine box_step (by rfl) (N := 8) rfl (cs := #[.int .i64 0, .int .i64 0, .int .i64 0, .bool false, .int .i64 0]) (t := 37) ?hr ?_; (case hr => exact qz7); intro gy hgy w2 Bgy hb; have HB2 := below_step HB1 hb; replace Bgx := blk_below Bgx hb; clear hb
 refine hK.out _ _ ⟨pw_cell_below HB2 Hb1.out, pw_cell_below HB2 Hb2.out, pw_cell_below HB2 Hx.out, pw_cell_below HB2 Hy.out, pw_cell_below HB2 X0.out, pw_cell_below HB2 X1.out, pw_cell_below HB2 X2.out, pw_cell_below HB2 X3.out, pw_cell_below HB2 X4.out, pw_cell_below HB2 Y0.out, pw_cell_below HB2 Y1.out, pw_cell_below HB2 Y2.out, pw_cell_below HB2 Y3.out, pw_cell_below HB2 Y4.out⟩ (fun hHeld => ?_)
 clear hK K
 refine nm_ 8 ?_
 have Ggy := Nat.le_trans L1 (Nat.le_of_eq hgy.symm)
 have NE : gx ≠ gy := by omega
 have NE' : gy ≠ gx := by omega
 clear hgx hgy L0 L1 bl_ HB0 HB1
 have Fgx := fun k => blk_frozen Bgx k
 have gx0 := c5_0 Bgx
 have gfx0 := blk_frozen Bgx 0
 have gx1 := c5_1 Bgx
 have gfx1 := blk_frozen Bgx 1
 have gx2 := c5_2 Bgx
 have gfx2 := blk_frozen Bgx 2
 have gx3 := c5_3 Bgx
 have gfx3 := blk_frozen Bgx 3
 have gx4 := c5_4 Bgx
 have gfx4 := blk_frozen Bgx 4
 have Fgy := fun k => blk_frozen Bgy k
 have gy0 := c5_0 Bgy
 have gfy0 := blk_frozen Bgy 0
 have gy1 := c5_1 Bgy
 have gfy1 := blk_frozen Bgy 1
 have gy2 := c5_2 Bgy
 have gfy2 := blk_frozen Bgy 2
 have gy3 := c5_3 Bgy
 have gfy3 := blk_frozen Bgy 3
 have gy4 := c5_4 Bgy
 have gfy4 := blk_frozen Bgy 4
 refine one_ (i := 16) (N := none) (bqz 18 131071) rfl rfl qzc (by decide) (fun K hK => ?_)
 refine sk_ ?_
 have HB3 := below_put5 HB2 Ggx (.int .i64 (rd_T37 l0 x).f0) (.int .i64 (rd_T37 l0 x).f1) (.int .i64 (rd_T37 l0 x).f2) (.bool (rd_T37 l0 x).f3) (.int .i64 (rd_T37 l0 x).f4)
 have BX := blk_put5 Bgx (.int .i64 (rd_T37 l0 x).f0) (.int .i64 (rd_T37 l0 x).f1) (.int .i64 (rd_T37 l0 x).f2) (.bool (rd_T37 l0 x).f3) (.int .i64 (rd_T37 l0 x).f4)
 have BY := blk_far5 Bgy NE' (.int .i64 (rd_T37 l0 x).f0) (.int .i64 (rd_T37 l0 x).f1) (.int .i64 (rd_T37 l0 x).f2) (.bool (rd_T37 l0 x).f3) (.int .i64 (rd_T37 l0 x).f4)
 generalize (((((w2.setCell ⟨gx, 0, none⟩ (.int .i64 (rd_T37 l0 x).f0)).setCell ⟨gx, 1, none⟩ (.int .i64 (rd_T37 l0 x).f1)).setCell ⟨gx, 2, none⟩ (.int .i64 (rd_T37 l0 x).f2)).setCell ⟨gx, 3, none⟩ (.bool (rd_T37 l0 x).f3)).setCell ⟨gx, 4, none⟩ (.int .i64 (rd_T37 l0 x).f4)) = w3 at HB3 BX BY ⊢
 clear Bgx Bgy HB2 Fgx Fgy gx0 gfx0 gx1 gfx1 gx2 gfx2 gx3 gfx3 gx4 gfx4 gy0 gfy0 gy1 gfy1 gy2 gfy2 gy3 gfy3 gy4 gfy4
 refine hK.out _ _ ⟨pw_cell_below HB3 Hb1.out, pw_cell_below HB3 Hb2.out, pw_cell_below HB3 Hx.out, pw_cell_below HB3 Hy.out, pw_cell_below HB3 X0.out, pw_cell_below HB3 X1.out, pw_cell_below HB3 X2.out, pw_cell_below HB3 X3.out, pw_cell_below HB3 X4.out, pw_cell_below HB3 Y0.out, pw_cell_below HB3 Y1.out, pw_cell_below HB3 Y2.out, pw_cell_below HB3 Y3.out, pw_cell_below HB3 Y4.out⟩ (fun hHeld => ?_)
 clear hK K
 have gy0 := c5_0 BY
 have gfy0 := blk_frozen BY 0
 have gy1 := c5_1 BY
 have gfy1 := blk_frozen BY 1
 have gy2 := c5_2 BY
 have gfy2 := blk_frozen BY 2
 have gy3 := c5_3 BY
 have gfy3 := blk_frozen BY 3
 have gy4 := c5_4 BY
 have gfy4 := blk_frozen BY 4
 refine last_ (i := 17) (N := none) (bqz 18 262143) rfl rfl qzc (by decide) (fun K hK => ?_)
 refine sk_ ?_
 refine hK.out _ _ ?_
 clear hK K
 have HB4 := below_put5 HB3 Ggy (.int .i64 (rd_T37 l0 y).f0) (.int .i64 (rd_T37 l0 y).f1) (.int .i64 (rd_T37 l0 y).f2) (.bool (rd_T37 l0 y).f3) (.int .i64 (rd_T37 l0 y).f4)
 have CX := blk_far5 BX NE (.int .i64 (rd_T37 l0 y).f0) (.int .i64 (rd_T37 l0 y).f1) (.int .i64 (rd_T37 l0 y).f2) (.bool (rd_T37 l0 y).f3) (.int .i64 (rd_T37 l0 y).f4)
 have CY := blk_put5 BY (.int .i64 (rd_T37 l0 y).f0) (.int .i64 (rd_T37 l0 y).f1) (.int .i64 (rd_T37 l0 y).f2) (.bool (rd_T37 l0 y).f3) (.int .i64 (rd_T37 l0 y).f4)
 generalize (((((w3.setCell ⟨gy, 0, none⟩ (.int .i64 (rd_T37 l0 y).f0)).setCell ⟨gy, 1, none⟩ (.int .i64 (rd_T37 l0 y).f1)).setCell ⟨gy, 2, none⟩ (.int .i64 (rd_T37 l0 y).f2)).setCell ⟨gy, 3, none⟩ (.bool (rd_T37 l0 y).f3)).setCell ⟨gy, 4, none⟩ (.int .i64 (rd_T37 l0 y).f4)) = w4 at HB4 CX CY ⊢
 clear BX BY HB3 hHeld gy0 gfy0 gy1 gfy1 gy2 gfy2 gy3 gfy3 gy4 gfy4
 refine done_ (done_of HT_.out (by kernel_rfl)) ?_
 have gx0 := c5_0 CX
 have gx4 := c5_4 CX
 have gy0 := c5_0 CY
 have gy4 := c5_4 CY
 by_cases c1 : (rd_T37 l0 x).f4 > (rd_T37 l0 y).f4
 {
 have d1 : decide ((rd_T37 l0 x).f4 > (rd_T37 l0 y).f4) = true := decide_eq_true c1
 have R1 : turnsLt l0 x y = true := by unfold turnsLt; rw [d1]; rfl
 have HR := aM R1; clear R1 c1
 go_wp2
 go_ret
 exact ⟨by rw [HR.out]; rfl, HB4⟩
 }
 {
 have d1 : decide ((rd_T37 l0 x).f4 > (rd_T37 l0 y).f4) = false := decide_eq_false c1
 by_cases c2 : (rd_T37 l0 x).f4 = (rd_T37 l0 y).f4
 {
 have d2 : ((rd_T37 l0 x).f4 == (rd_T37 l0 y).f4) = true := by simpa using c2
 have R1 : turnsLt l0 x y = decide ((rd_T37 l0 x).f0 < (rd_T37 l0 y).f0) := by unfold turnsLt; rw [d1, decide_eq_true c2]; simp
 have HR := aM R1; clear R1 c1 c2
 go_wp2
 go_ret
 exact ⟨by rw [HR.out]; rfl, HB4⟩
 }
 {
 have d2 : ((rd_T37 l0 x).f4 == (rd_T37 l0 y).f4) = false := by simpa using c2
 have R1 : turnsLt l0 x y = false := by unfold turnsLt; rw [d1, decide_eq_false c2]; simp
 have HR := aM R1; clear R1 c1 c2
 go_wp2
 go_ret
 exact ⟨by rw [HR.out]; rfl, HB4⟩
 }
 }
 }
 {
 have L0 : W.heap.size ≤ W.drew.heap.size := Nat.le_refl _
 refine box_step (by rfl) (N := 8) rfl (cs := #[.int .i64 0, .int .i64 0, .int .i64 0, .bool false, .int .i64 0]) (t := 37) ?hr ?_; (case hr => exact qz7); intro gy hgy w1 Bgy hb; have HB1 := below_step HB0 hb; clear hb
 refine hK.out _ _ ⟨pw_cell_below HB1 Hb1.out, pw_cell_below HB1 Hb2.out, pw_cell_below HB1 Hx.out, pw_cell_below HB1 Hy.out, pw_cell_below HB1 X0.out, pw_cell_below HB1 X1.out, pw_cell_below HB1 X2.out, pw_cell_below HB1 X3.out, pw_cell_below HB1 X4.out, pw_cell_below HB1 Y0.out, pw_cell_below HB1 Y1.out, pw_cell_below HB1 Y2.out, pw_cell_below HB1 Y3.out, pw_cell_below HB1 Y4.out⟩ (fun hHeld => ?_)
 clear hK K
 refine nm_ 8 ?_
 have Ggy := Nat.le_trans L0 (Nat.le_of_eq hgy.symm)
 refine oI_ 14 7 (bqz 18 65535) (fun K hK => ?_)
 have L1 := below_size HB1
 have bl_ := blk_lt Bgy
 refine box_step (by rfl) (N := 7) rfl (cs := #[.int .i64 0, .int .i64 0, .int .i64 0, .bool false, .int .i64 0]) (t := 37) ?hr ?_; (case hr => exact qz7); intro gx hgx w2 Bgx hb; have HB2 := below_step HB1 hb; replace Bgy := blk_below Bgy hb; clear hb
 refine hK.out _ _ ⟨pw_cell_below HB2 Hb1.out, pw_cell_below HB2 Hb2.out, pw_cell_below HB2 Hx.out, pw_cell_below HB2 Hy.out, pw_cell_below HB2 X0.out, pw_cell_below HB2 X1.out, pw_cell_below HB2 X2.out, pw_cell_below HB2 X3.out, pw_cell_below HB2 X4.out, pw_cell_below HB2 Y0.out, pw_cell_below HB2 Y1.out, pw_cell_below HB2 Y2.out, pw_cell_below HB2 Y3.out, pw_cell_below HB2 Y4.out⟩ (fun hHeld => ?_)
 clear hK K
 refine nm_ 7 ?_
 have Ggx := Nat.le_trans L1 (Nat.le_of_eq hgx.symm)
 have NE : gx ≠ gy := by omega
 have NE' : gy ≠ gx := by omega
 clear hgx hgy L0 L1 bl_ HB0 HB1
 have Fgx := fun k => blk_frozen Bgx k
 have gx0 := c5_0 Bgx
 have gfx0 := blk_frozen Bgx 0
 have gx1 := c5_1 Bgx
 have gfx1 := blk_frozen Bgx 1
 have gx2 := c5_2 Bgx
 have gfx2 := blk_frozen Bgx 2
 have gx3 := c5_3 Bgx
 have gfx3 := blk_frozen Bgx 3
 have gx4 := c5_4 Bgx
 have gfx4 := blk_frozen Bgx 4
 have Fgy := fun k => blk_frozen Bgy k
 have gy0 := c5_0 Bgy
 have gfy0 := blk_frozen Bgy 0
 have gy1 := c5_1 Bgy
 have gfy1 := blk_frozen Bgy 1
 have gy2 := c5_2 Bgy
 have gfy2 := blk_frozen Bgy 2
 have gy3 := c5_3 Bgy
 have gfy3 := blk_frozen Bgy 3
 have gy4 := c5_4 Bgy
 have gfy4 := blk_frozen Bgy 4
 refine one_ (i := 16) (N := none) (bqz 18 131071) rfl rfl qzc (by decide) (fun K hK => ?_)
 refine sk_ ?_
 have HB3 := below_put5 HB2 Ggx (.int .i64 (rd_T37 l0 x).f0) (.int .i64 (rd_T37 l0 x).f1) (.int .i64 (rd_T37 l0 x).f2) (.bool (rd_T37 l0 x).f3) (.int .i64 (rd_T37 l0 x).f4)
 have BX := blk_put5 Bgx (.int .i64 (rd_T37 l0 x).f0) (.int .i64 (rd_T37 l0 x).f1) (.int .i64 (rd_T37 l0 x).f2) (.bool (rd_T37 l0 x).f3) (.int .i64 (rd_T37 l0 x).f4)
 have BY := blk_far5 Bgy NE' (.int .i64 (rd_T37 l0 x).f0) (.int .i64 (rd_T37 l0 x).f1) (.int .i64 (rd_T37 l0 x).f2) (.bool (rd_T37 l0 x).f3) (.int .i64 (rd_T37 l0 x).f4)
 generalize (((((w2.setCell ⟨gx, 0, none⟩ (.int .i64 (rd_T37 l0 x).f0)).setCell ⟨gx, 1, none⟩ (.int .i64 (rd_T37 l0 x).f1)).setCell ⟨gx, 2, none⟩ (.int .i64 (rd_T37 l0 x).f2)).setCell ⟨gx, 3, none⟩ (.bool (rd_T37 l0 x).f3)).setCell ⟨gx, 4, none⟩ (.int .i64 (rd_T37 l0 x).f4)) = w3 at HB3 BX BY ⊢
 clear Bgx Bgy HB2 Fgx Fgy gx0 gfx0 gx1 gfx1 gx2 gfx2 gx3 gfx3 gx4 gfx4 gy0 gfy0 gy1 gfy1 gy2 gfy2 gy3 gfy3 gy4 gfy4
 refine hK.out _ _ ⟨pw_cell_below HB3 Hb1.out, pw_cell_below HB3 Hb2.out, pw_cell_below HB3 Hx.out, pw_cell_below HB3 Hy.out, pw_cell_below HB3 X0.out, pw_cell_below HB3 X1.out, pw_cell_below HB3 X2.out, pw_cell_below HB3 X3.out, pw_cell_below HB3 X4.out, pw_cell_below HB3 Y0.out, pw_cell_below HB3 Y1.out, pw_cell_below HB3 Y2.out, pw_cell_below HB3 Y3.out, pw_cell_below HB3 Y4.out⟩ (fun hHeld => ?_)
 clear hK K
 have gy0 := c5_0 BY
 have gfy0 := blk_frozen BY 0
 have gy1 := c5_1 BY
 have gfy1 := blk_frozen BY 1
 have gy2 := c5_2 BY
 have gfy2 := blk_frozen BY 2
 have gy3 := c5_3 BY
 have gfy3 := blk_frozen BY 3
 have gy4 := c5_4 BY
 have gfy4 := blk_frozen BY 4
 refine last_ (i := 17) (N := none) (bqz 18 262143) rfl rfl qzc (by decide) (fun K hK => ?_)
 refine sk_ ?_
 refine hK.out _ _ ?_
 clear hK K
 have HB4 := below_put5 HB3 Ggy (.int .i64 (rd_T37 l0 y).f0) (.int .i64 (rd_T37 l0 y).f1) (.int .i64 (rd_T37 l0 y).f2) (.bool (rd_T37 l0 y).f3) (.int .i64 (rd_T37 l0 y).f4)
 have CX := blk_far5 BX NE (.int .i64 (rd_T37 l0 y).f0) (.int .i64 (rd_T37 l0 y).f1) (.int .i64 (rd_T37 l0 y).f2) (.bool (rd_T37 l0 y).f3) (.int .i64 (rd_T37 l0 y).f4)
 have CY := blk_put5 BY (.int .i64 (rd_T37 l0 y).f0) (.int .i64 (rd_T37 l0 y).f1) (.int .i64 (rd_T37 l0 y).f2) (.bool (rd_T37 l0 y).f3) (.int .i64 (rd_T37 l0 y).f4)
 generalize (((((w3.setCell ⟨gy, 0, none⟩ (.int .i64 (rd_T37 l0 y).f0)).setCell ⟨gy, 1, none⟩ (.int .i64 (rd_T37 l0 y).f1)).setCell ⟨gy, 2, none⟩ (.int .i64 (rd_T37 l0 y).f2)).setCell ⟨gy, 3, none⟩ (.bool (rd_T37 l0 y).f3)).setCell ⟨gy, 4, none⟩ (.int .i64 (rd_T37 l0 y).f4)) = w4 at HB4 CX CY ⊢
 clear BX BY HB3 hHeld gy0 gfy0 gy1 gfy1 gy2 gfy2 gy3 gfy3 gy4 gfy4
 refine done_ (done_of HT_.out (by kernel_rfl)) ?_
 have gx0 := c5_0 CX
 have gx4 := c5_4 CX
 have gy0 := c5_0 CY
 have gy4 := c5_4 CY
 by_cases c1 : (rd_T37 l0 x).f4 > (rd_T37 l0 y).f4
 {
 have d1 : decide ((rd_T37 l0 x).f4 > (rd_T37 l0 y).f4) = true := decide_eq_true c1
 have R1 : turnsLt l0 x y = true := by unfold turnsLt; rw [d1]; rfl
 have HR := aM R1; clear R1 c1
 go_wp2
 go_ret
 exact ⟨by rw [HR.out]; rfl, HB4⟩
 }
 {
 have d1 : decide ((rd_T37 l0 x).f4 > (rd_T37 l0 y).f4) = false := decide_eq_false c1
 by_cases c2 : (rd_T37 l0 x).f4 = (rd_T37 l0 y).f4
 {
 have d2 : ((rd_T37 l0 x).f4 == (rd_T37 l0 y).f4) = true := by simpa using c2
 have R1 : turnsLt l0 x y = decide ((rd_T37 l0 x).f0 < (rd_T37 l0 y).f0) := by unfold turnsLt; rw [d1, decide_eq_true c2]; simp
 have HR := aM R1; clear R1 c1 c2
 go_wp2
 go_ret
 exact ⟨by rw [HR.out]; rfl, HB4⟩
 }
 {
 have d2 : ((rd_T37 l0 x).f4 == (rd_T37 l0 y).f4) = false := by simpa using c2
 have R1 : turnsLt l0 x y = false := by unfold turnsLt; rw [d1, decide_eq_false c2]; simp
 have HR := aM R1; clear R1 c1 c2
 go_wp2
 go_ret
 exact ⟨by rw [HR.out]; rfl, HB4⟩
 }
 }
 }
def impl_Turns.T5 : Bool × List (List Nat × List Nat) := (true, [([], []), ([], []), ([1], [1]), ([0, 2], [0, 2]), ([3, 3, 0, 1, 2, 3], [3])])
def impl_Turns.B5 : List Nat := [0, 0, 2, 7, 15]
theorem impl_Turns.tab5 : rtab .any (opsOf Try.f17 5) = impl_Turns.T5 := by kernel_rfl
theorem impl_Turns.bits5 : waitsOk impl_Turns.T5.2 impl_Turns.B5 = true := by kernel_rfl
def impl_Turns.T7 : Bool × List (List Nat × List Nat) := (true, [([], []), ([0], [0]), ([], []), ([1, 2], [1, 2])])
def impl_Turns.B7 : List Nat := [0, 1, 0, 7]
theorem impl_Turns.tab7 : rtab .any (opsOf Try.f17 7) = impl_Turns.T7 := by kernel_rfl
theorem impl_Turns.bits7 : waitsOk impl_Turns.T7.2 impl_Turns.B7 = true := by kernel_rfl
def upto (n : Nat) : List Int := (List.range n).map (fun i : Nat => (i : Int))
theorem upto_succ (n : Nat) : upto (n + 1) = upto n ++ [(n : Int)] := by simp [upto, List.range_succ]
theorem upto_length (n : Nat) : (upto n).length = n := by simp [upto]
theorem upto_mem {n : Nat} {x : Int} (h : x ∈ upto n) : 0 ≤ x ∧ x < (n : Int) := by
 obtain ⟨i, hi, rfl⟩ := List.mem_map.1 h
 have := List.mem_range.1 hi
 omega
def impl_Turns.f (l0 : List S37) : Option (List Int) := if l0.length ≤ 20 then some (sortL (turnsLt l0) (upto l0.length)) else none
set_option maxHeartbeats 8000000 in
set_option maxRecDepth 100000 in
theorem impl_Turns.calls (A0 : Option Addr) (c0 : Nat) (l0 : List S37) (r : List Int) (w : World) (hr0 : Kd.C k37 w A0 l0.length l0) (hc0 : l0.length ≤ c0) (h : impl_Turns.f l0 = some r) :
  Calls Try.prog 17 #[.slice A0 l0.length c0] w fun e w' => ∃ v0_ : Value, e = .returned v0_ ∧ Kd.R (Kd.int .i64) 3 w' w.heap.size (fun _ => True) v0_ r ∧ Below w.heap.size w w' := by
 have hu24 := Try.underlying24
 have hu26 := Try.underlying26
 have hl20 : l0.length ≤ 20 := by
  unfold impl_Turns.f at h
  split at h
  {
  assumption
  }
  {
  cases h
  }
 have hr : r = sortL (turnsLt l0) (upto l0.length) := by unfold impl_Turns.f at h; rw [if_pos hl20] at h; exact (Option.some.inj h).symm
 have HRR := aM hr
 have HR0 := aM hr0
 have HC0 := aM hc0
 have HL := aM hl20
 clear hr hr0 hc0 hl20 h
 have HB := aM (Below.refl w.heap.size w)
 go_enter Try.func17, Try.ntmps17
 go_wp2_with (first
  | ((with_reducible refine gate_dst (N := 1) rfl ?_); refine box_event rfl (N := 1) rfl (cs := #[.slice A0 l0.length c0]) (t := 26) ?hr ?_; (case hr => exact qz7); intro b1 hg w1 hbx hb; have BK1 := aM hbx; have GB1 := aM (Nat.le_of_eq hg.symm : w.heap.size ≤ b1); replace HB := aM (below_step HB.out hb); have hbl := blk_lt hbx; have hc1 : w1.cell? ⟨b1, 0, none⟩ = some (.slice A0 l0.length c0) := (blk_cell hbx 0).trans rfl; clear hb hbx hg)
  | ((with_reducible refine gate_dst (N := 3) rfl ?_); refine box_event rfl (N := 3) rfl (cs := #[.slice none 0 0]) (t := 24) ?hr ?_; (case hr => exact qz7); intro b2 hg w2 hbx hb; have BK2 := aM hbx; have NE := aM (show b1 ≠ b2 from by omega); have GB2 := aM (Nat.le_trans (below_size HB.out) (Nat.le_of_eq hg.symm) : w.heap.size ≤ b2); replace HB := aM (below_step HB.out hb); replace BK1 := aM (blk_below BK1.out hb); replace hc1 : w2.cell? ⟨b1, 0, none⟩ = some (.slice A0 l0.length c0) := (blk_cell BK1.out 0).trans rfl; clear hb hbx hg hbl))
 go_loopw [7] (fun v7 w' => ∃ (i : Nat) (v : Value), v7 = .int .i64 i ∧ i ≤ l0.length ∧ Aside0 (w'.heap[b2]? = some (.cells #[v] 24 (0, 0))) ∧ Aside0 (Kd.R (Kd.int .i64) 3 w' w.heap.size (fun k => k ≠ b1 ∧ k ≠ b2) v (upto i)) ∧ Aside0 (w'.heap[b1]? = some (.cells #[.slice A0 l0.length c0] 26 (0, 0))) ∧ Aside0 (Below w.heap.size w w')) (fun v7 _ => l0.length - (intOf v7).toNat)
 case atStart => exact ⟨0, _, rfl, Nat.zero_le _, BK2, ⟨Kd.R_nil _ _ _ _ _⟩, BK1, HB⟩
 case round =>
 clear HB BK1 BK2 hc1
 obtain ⟨i, v, rfl, hi, BK2, HO, BK1, HB⟩ := hrel
 obtain ⟨A2, c2, rfl⟩ := Kd.R_slice HO.out
 have hl1 := blk_lt BK1.out
 have hl2 := blk_lt BK2.out
 have HLT := aM (And.intro hl1 hl2)
 have HI := aM hi
 clear hl1 hl2 hi
 have hn2 := upto_length i
 have HN2 := aM hn2
 clear hn2
 by_cases hlt : i < l0.length
 {
 have LMi : (upto i).length + 1 ≤ 100 := by have := HN2.out; have := HL.out; omega
 have hd : decide ((i : Int) < (l0.length : Int)) = true := decide_eq_true (by omega)
 have h20 : (i : Int) < 20 := by have := HL.out; omega
 have hc2 : wr.cell? ⟨b2, 0, none⟩ = some (.slice A2 (upto i).length c2) := (blk_cell BK2.out 0).trans rfl
 have LM := aM LMi
 clear LMi
 go_wp2_with (first
  | ((with_reducible refine gate_builtin (b := .append) (xs := #[.tmp 10, .tmp 12]) rfl ?_); at_builtin; refine Kd.R_append (Kd.int .i64) (w0 := w) w.heap.size rfl (.tmp 10) (.tmp 12) 24 3 (.int .i64 0) 8 rfl Try.underlying24 info3 rfl (by decide) (by omega) (.slice A2 (upto i).length c2) (upto i) (i : Int) [.int .i64 (i : Int)] (fun k => k ≠ b1 ∧ k ≠ b2) (fun _ => False) rfl rfl ?aP (fun _ hk => hk.elim) ?aF ?aO ?aB ?aS ?aL ?_; (case aP => exact rfl); (case aB => exact HB.out); (case aF => exact (fun k hk => ⟨by have := HLT.out.1; omega, by have := HLT.out.2; omega⟩)); (case aO => exact HO.out); (case aS => exact below_size HB.out); (case aL => have := LM.out; omega); intro v1 w3 ho hb hg hat; obtain ⟨A3, c3, rfl⟩ := Kd.R_slice ho; replace HB := aM hb; replace BK1 := aM (blk_grown BK1.out hg (fun e => (HO.out.1 b1 e.symm).1 rfl)); replace BK2 := aM (blk_grown BK2.out hg (fun e => (HO.out.1 b2 e.symm).2 rfl)); have HO3 := aM ho; clear HO ho hb hg hat hc2; have hf2 := blk_frozen BK2.out 0; have hc2 : w3.cell? ⟨b2, 0, none⟩ = some (.slice A2 (upto i).length c2) := (blk_cell BK2.out 0).trans rfl))
 go_roundw
 case rel => 
  have e_ : (upto i ++ [(i : Int)]).length = (upto i).length + 1 := by simp
  have h3 := HO3.out
  rw [e_] at h3
  refine ⟨i + 1, _, by go_num, by omega, ⟨blk_put BK2.out 0 _ rfl⟩, ⟨?_⟩, ⟨blk_far BK1.out NE.out _⟩, ⟨below_set HB.out GB2.out⟩⟩
  rw [upto_succ]
  exact Kd.R_far h3 (p := ⟨b2, 0, none⟩) (fun k hk => hk.2) _
 case measure => simp [intOf]; omega
 }
 {
 obtain rfl : i = l0.length := by have := HI.out; omega
 have hd : decide ((l0.length : Int) < (l0.length : Int)) = false := decide_eq_false (by omega)
 have hc2 : wr.cell? ⟨b2, 0, none⟩ = some (.slice A2 (upto l0.length).length c2) := (blk_cell BK2.out 0).trans rfl
 have hmi : ∀ (W : World), (Instr.makeInterface 24 (.slice A2 (upto l0.length).length c2)).run Try.prog W = .ok (.iface 24 (.slice A2 (upto l0.length).length c2)) W := fun _ => by kernel_rfl
 have hmf : ∀ (fn : Fn) (first cap : Array Value) (w : World), (Instr.makeFunc fn first cap).run Try.prog w = .ok (.func fn first cap) w := fun _ _ _ _ => rfl
 have hS := sort_few (fun x => 0 ≤ x ∧ x < (l0.length : Int)) (turnsLt l0) 55 #[.pointer (some ⟨b1, 0, none⟩), .pointer (some ⟨b2, 0, none⟩)] (enters_of Try.func55 (by kernel_rfl) rfl) A2 (upto l0.length).length c2 (upto l0.length) w.heap.size _ (by have := HN2.out; have := HL.out; omega) wr HO.out (fun x hx => upto_mem hx)
  (fun blk e W dk hl hs i j hi hj => by
   subst e
   have hb := HO.out.1 blk rfl
   have e1 := hl.gr.block b1 HLT.out.1 (by intro e; injection e with e; exact hb.1 e.symm)
   have e2 := hl.gr.block b2 HLT.out.2 (by intro e; injection e with e; exact hb.2 e.symm)
   have hi' : i < dk.size := by rw [hs]; exact hi
   have hj' : j < dk.size := by rw [hs]; exact hj
   have hx := (hl.ho i hi').1
   have hy := (hl.ho j hj').1
   rw [Nat.zero_add] at hx hy
   exact impl_TurnsL.calls A0 c0 l0 W (Kd.C_below HR0.out (pw_below_grown HB.out _ (below_size HB.out) hl.gr (Kd.R_base HO.out))) b1 b2 blk _ c2 i j dk[i]! dk[j]! ((blk_cell (e1.trans BK1.out) 0).trans rfl) ((blk_cell (e2.trans BK2.out) 0).trans rfl) hi hj hx hy (hl.al i hi').1 (hl.al i hi').2 (hl.al j hj').1 (hl.al j hj').2)
 have HS := aM hS
 clear hS
 go_wp2_with (go_at_call 54; refine HS.out.mono ?_; rintro e w3 ⟨rfl, hR, hG⟩; have HR3 := aM hR; have BK3 := aM (blk_grown BK2.out hG (fun e => (HO.out.1 b2 e.symm).2 rfl)); have HB3 := aM (pw_below_grown HB.out _ (below_size HB.out) hG (Kd.R_base HO.out)); clear hR hG hc2; have hc3 : w3.cell? ⟨b2, 0, none⟩ = some (.slice A2 (upto l0.length).length c2) := (blk_cell BK3.out 0).trans rfl)
 go_ret
 refine ⟨_, rfl, ?_, ?_⟩
 {
 rw [HRR.out]; exact Kd.R_mono HR3.out (fun _ _ => trivial)
 }
 {
 exact HB3.out
 }
 }
/-! ### impl_beside: function 68 -/
mutual
def impl_beside.j0 : Nat → Int → List Int → Int → Int → Int → Int → List Int → Option (List Int)
 | 0, _, _, _, _, _, _, _ => none
 | k + 1, x1, x5, x6, x7, x133000, x133001, x133002 => if x6 > 0 then (if x5.length < 17592186044416 then (impl_beside.j1 k x1 (x5 ++ [wrap64 (x1 - 1)]) x6 x7 x133000 x133001 x133002) else (none)) else (impl_beside.j1 k x1 x5 x6 x7 x133000 x133001 x133002)
def impl_beside.j1 : Nat → Int → List Int → Int → Int → Int → Int → List Int → Option (List Int)
 | 0, _, _, _, _, _, _, _ => none
 | k + 1, x1, x5, x6, x7, x133000, x133001, x133002 => if x6 < (wrap64 (x133000 - 1)) then (if x5.length < 17592186044416 then ((some (x5 ++ [wrap64 (x1 + 1)] : List Int)).bind fun y139 => (if x7 < (wrap64 (x133001 - 1)) then (if y139.length < 17592186044416 then (some (y139 ++ [wrap64 (x1 + x133000)])) else (none)) else (some y139))) else (none)) else (if x7 < (wrap64 (x133001 - 1)) then (if x5.length < 17592186044416 then (some (x5 ++ [wrap64 (x1 + x133000)])) else (none)) else (some x5))
end
def impl_beside.f (k : Nat) (a0_0 : Int) (a0_1 : Int) (l0_2 : List Int) (a1 : Int) : Option (List Int) := if a0_0 = 0 then (none) else (if (wrap64 (Int.tdiv a1 a0_0)) > 0 then (if ([] : List Int).length < 17592186044416 then (impl_beside.j0 k a1 (([] : List Int) ++ [wrap64 (a1 - a0_0)]) (Int.tmod a1 a0_0) (wrap64 (Int.tdiv a1 a0_0)) a0_0 a0_1 l0_2) else (none)) else (impl_beside.j0 k a1 ([] : List Int) (Int.tmod a1 a0_0) (wrap64 (Int.tdiv a1 a0_0)) a0_0 a0_1 l0_2))
theorem impl_beside.mono_l : ∀ k, (∀ y0 y1 y2 y3 y4 y5 y6, LeO (impl_beside.j0 k y0 y1 y2 y3 y4 y5 y6) (impl_beside.j0 (k + 1) y0 y1 y2 y3 y4 y5 y6)) ∧ (∀ y0 y1 y2 y3 y4 y5 y6, LeO (impl_beside.j1 k y0 y1 y2 y3 y4 y5 y6) (impl_beside.j1 (k + 1) y0 y1 y2 y3 y4 y5 y6))
 | 0 => ⟨fun _ _ _ _ _ _ _ r h => by simp [impl_beside.j0] at h, fun _ _ _ _ _ _ _ r h => by simp [impl_beside.j1] at h⟩
 | k + 1 => by
  obtain ⟨ih0, ih1⟩ := impl_beside.mono_l k
  refine ⟨?_, ?_⟩
  {
  intro y0 y1 y2 y3 y4 y5 y6
  unfold impl_beside.j0
  exact qL
  }
  {
  intro y0 y1 y2 y3 y4 y5 y6
  unfold impl_beside.j1
  exact qL
  }
theorem impl_beside.mono : ∀ a0 a1 a2 a3 k, LeO (impl_beside.f k a0 a1 a2 a3) (impl_beside.f (k + 1) a0 a1 a2 a3) := by
 intro a0 a1 a2 a3 k
 obtain ⟨ih0, ih1⟩ := impl_beside.mono_l k
 unfold impl_beside.f
 exact qL
set_option maxHeartbeats 8000000 in
set_option maxRecDepth 100000 in
theorem impl_beside.calls (k : Nat) (a0_0 : Int) (a0_1 : Int) (A0_2 : Option Addr) (c0_2 : Nat) (l0_2 : List Int) (a1 : Int) (r : List Int) (w : World) (hr0_2 : Kd.C (Kd.int .i64) w A0_2 l0_2.length l0_2) (hc0_2 : l0_2.length ≤ c0_2) (h : impl_beside.f k a0_0 a0_1 l0_2 a1 = some r) :
  Calls Try.prog 68 #[.agg #[.int .i64 a0_0, .int .i64 a0_1, .slice A0_2 l0_2.length c0_2], .int .i64 a1] w fun e w' => ∃ v0_ : Value, e = .returned (v0_) ∧ Kd.R (Kd.int .i64) 3 w' w.heap.size (fun _ => True) v0_ r ∧ Below w.heap.size w w' := by
 have hu43 := Try.underlying43
 have HR0_2 := aM hr0_2
 have HC0_2 := aM hc0_2
 clear hr0_2 hc0_2
 have HB := aM (Below.refl w.heap.size w)
 unfold impl_beside.f at h
 have H := h
 clear h
 by_cases c3 : a0_0 = 0
 {
 exact ap_ c3 H
 }
 {
 rw [if_neg c3] at H
 have c3b0 := beq_eq_false_iff_ne.mpr c3
 have c3b1 := bne_iff_ne.mpr c3
 have HC4 := aM H
 clear H
 go_enter Try.func68, Try.ntmps68
 go_upto_if 17 with (first | ((with_reducible refine gate_dst (N := 2) rfl ?_); refine bx_ 2 #[.int .i64 a0_0, .int .i64 a0_1, .slice A0_2 l0_2.length c0_2] 43 ?_; intro gb132 hg w5 hbox hb; have BK132 := aM (hbox); have GW132 := aM (bz_ w hg qz1); have GE132 := GW132; replace HB := bS_ hb; clear hb hbox hg; obtain ⟨hcz6_0, hcz6_1, hcz6_2, hfz6_0, hfz6_1, hfz6_2⟩ := b6_ BK132.out))
 repeat (go_quiet (first | ((with_reducible refine gate_dst (N := 2) rfl ?_); refine bx_ 2 #[.int .i64 a0_0, .int .i64 a0_1, .slice A0_2 l0_2.length c0_2] 43 ?_; intro gb132 hg w5 hbox hb; have BK132 := aM (hbox); have GW132 := aM (bz_ w hg qz1); have GE132 := GW132; replace HB := bS_ hb; clear hb hbox hg; obtain ⟨hcz6_0, hcz6_1, hcz6_2, hfz6_0, hfz6_1, hfz6_2⟩ := b6_ BK132.out)); go_upto_if 17 with (first | ((with_reducible refine gate_dst (N := 2) rfl ?_); refine bx_ 2 #[.int .i64 a0_0, .int .i64 a0_1, .slice A0_2 l0_2.length c0_2] 43 ?_; intro gb132 hg w5 hbox hb; have BK132 := aM (hbox); have GW132 := aM (bz_ w hg qz1); have GE132 := GW132; replace HB := bS_ hb; clear hb hbox hg; obtain ⟨hcz6_0, hcz6_1, hcz6_2, hfz6_0, hfz6_1, hfz6_2⟩ := b6_ BK132.out)))
 (try simp only [Act.put, List.setIfInBounds_toArray, List.set_cons_zero, List.set_cons_succ])
 go_cut [5] (fun v5 wc => ∃ (kq : Nat) (x5_3 : List Int), Aside0 (impl_beside.j0 kq a1 x5_3 (Int.tmod a1 a0_0) (wrap64 (Int.tdiv a1 a0_0)) a0_0 a0_1 l0_2 = some r) ∧ Aside0 (kq ≤ k) ∧ Aside0 (Kd.R (Kd.int .i64) 3 wc w.heap.size (fun _ => True) v5 x5_3) ∧ Aside0 (wc.heap[gb132]? = some (.cells #[.int .i64 a0_0, .int .i64 a0_1, (.slice A0_2 l0_2.length c0_2)] 43 (0, 0))) ∧ Aside0 (Below w.heap.size w wc))
 case first =>
  have H := HC4.out
  clear HC4
  replace H := iE_ H
  rcases H with ⟨c7b0, H⟩ | ⟨c7b0, H⟩
  {
  (first | rw [c7b0] | (simp only [i64_w, i32_w]; rw [c7b0]) | rw [@decide_eq_true _ _ (of_decide_eq_true c7b0)] | rw [@decide_eq_true _ _ (of_decide_eq_true c7b1)] | skip)
  replace H := iN_ H
  obtain ⟨c8, H⟩ := H
  have LMc8 := aM c8
  clear c8
  obtain ⟨y133, hy133⟩ : ∃ y_ : List Int, y_ = (([] : List Int) ++ [wrap64 (a1 - a0_0)]) := ⟨_, rfl⟩
  replace H : (impl_beside.j0 k a1 y133 (Int.tmod a1 a0_0) (wrap64 (Int.tdiv a1 a0_0)) a0_0 a0_1 l0_2) = some r := by first | (rw [hy133]; exact H) | exact H
  have Ny133 := aM hy133
  clear hy133
  have H' := aM H
  clear H
  obtain ⟨hcz9_0, hcz9_1, hcz9_2, hfz9_0, hfz9_1, hfz9_2⟩ := b6_ BK132.out
  go_wp2_with (first | ((with_reducible refine gate_builtin (b := .append) (xs := #[.tmp 18, .tmp 23]) rfl ?_); at_builtin; refine Kd.R_append (Kd.int .i64) (w0 := w) w.heap.size rfl (.tmp 18) (.tmp 23) 24 3 (.int .i64 0) 8 rfl Try.underlying24 info3 rfl (by decide) (by omega) (.slice none 0 0) ([] : List Int) (wrap64 (a1 - a0_0)) [.int .i64 (wrap64 (a1 - a0_0))] (fun _ => True) (fun _ => False) rfl rfl ?aP (fun _ hk => hk.elim) ?aF ?aO ?aB ?aS ?aL ?_; (case aP => exact rfl); (case aB => exact qz1); (case aF => exact qz12); (case aO => exact ((Kd.R_nil _ _ _ _ (fun _ => True)))); (case aS => exact qz19); (case aL => have := LMc8.out; omega); intro v134 w10 ho hb hg hat; rw [← Ny133.out] at ho; replace BK132 := aM (blk_grown (bk_ BK132.out) hg (by simp [Value.ownBlock])); replace HB := aM (hb); have HO135 := aM (ho); clear ho hb hg hat) | go_quiet (fail))
  go_meet
  case rel => exact ⟨_, (y133), H', ⟨by first | omega | exact Nat.le_refl _⟩, ⟨rm_ HO135.out⟩, ⟨bk_ BK132.out⟩, ⟨qz1⟩⟩
  }
  {
  (first | rw [c7b0] | (simp only [i64_w, i32_w]; rw [c7b0]) | rw [@decide_eq_false _ _ (of_decide_eq_false c7b0)] | rw [@decide_eq_false _ _ (of_decide_eq_false c7b1)] | skip)
  have H' := aM H
  clear H
  go_wp2
  repeat (go_quiet (fail); try go_wp2)
  go_meet
  case rel => exact ⟨_, (([] : List Int)), H', ⟨by first | omega | exact Nat.le_refl _⟩, ⟨by first | exact Kd.R_nil _ _ _ _ _ | exact Kd.N_nil _ _ _ _ _ | exact Kd.V_nil _ _ _ _ _ | exact Kd.Q_nil _ _ _ _ _ | exact Kd.S_nil _ _ _ _ _⟩, ⟨bk_ BK132.out⟩, ⟨qz1⟩⟩
  }
 case rest =>
 clear HC4
 try clear c3
 try clear c3b0
 try clear c3b1
 try clear hcz6_0 hcz6_1 hcz6_2 hfz6_0 hfz6_1 hfz6_2
 obtain ⟨kq, x5_3, HA, HJ3, HO_5, BK132, HB⟩ := hcut
 cases kq with
 | zero => exact absurd HA.out (by simp [impl_beside.j0])
 | succ kj3 =>
 have H := HA.out
 clear HA
 simp only [impl_beside.j0] at H
 have HC11 := aM H
 clear H
 go_upto_if 26 with (fail)
 repeat (go_quiet (fail); go_upto_if 26 with (fail))
 go_cut [5] (fun v5 wc => ∃ (kq : Nat) (x5_10 : List Int), Aside0 (impl_beside.j1 kq a1 x5_10 (Int.tmod a1 a0_0) (wrap64 (Int.tdiv a1 a0_0)) a0_0 a0_1 l0_2 = some r) ∧ Aside0 (kq ≤ kj3) ∧ Aside0 (Kd.R (Kd.int .i64) 3 wc w.heap.size (fun _ => True) v5 x5_10) ∧ Aside0 (wc.heap[gb132]? = some (.cells #[.int .i64 a0_0, .int .i64 a0_1, (.slice A0_2 l0_2.length c0_2)] 43 (0, 0))) ∧ Aside0 (Below w.heap.size w wc))
 case first =>
  have H := HC11.out
  clear HC11
  replace H := iE_ H
  rcases H with ⟨c12b0, H⟩ | ⟨c12b0, H⟩
  {
  (first | rw [c12b0] | (simp only [i64_w, i32_w]; rw [c12b0]) | rw [@decide_eq_true _ _ (of_decide_eq_true c12b0)] | rw [@decide_eq_true _ _ (of_decide_eq_true c12b1)] | skip)
  replace H := iN_ H
  obtain ⟨c13, H⟩ := H
  have LMc13 := aM c13
  clear c13
  obtain ⟨y136, hy136⟩ : ∃ y_ : List Int, y_ = (x5_3 ++ [wrap64 (a1 - 1)]) := ⟨_, rfl⟩
  replace H : (impl_beside.j1 kj3 a1 y136 (Int.tmod a1 a0_0) (wrap64 (Int.tdiv a1 a0_0)) a0_0 a0_1 l0_2) = some r := by first | (rw [hy136]; exact H) | exact H
  have Ny136 := aM hy136
  clear hy136
  have H' := aM H
  clear H
  go_wp2_with (first | ((with_reducible refine gate_builtin (b := .append) (xs := #[.tmp 27, .tmp 30]) rfl ?_); at_builtin; refine Kd.R_append (Kd.int .i64) (w0 := w) w.heap.size rfl (.tmp 27) (.tmp 30) 24 3 (.int .i64 0) 8 rfl Try.underlying24 info3 rfl (by decide) (by omega) u5 x5_3 (wrap64 (a1 - 1)) [.int .i64 (wrap64 (a1 - 1))] (fun _ => True) (fun _ => False) rfl rfl ?aP (fun _ hk => hk.elim) ?aF ?aO ?aB ?aS ?aL ?_; (case aP => exact rfl); (case aB => exact qz1); (case aF => exact qz12); (case aO => exact (rr_ HO_5.out)); (case aS => exact qz19); (case aL => have := LMc13.out; omega); intro v137 w14 ho hb hg hat; rw [← Ny136.out] at ho; replace BK132 := aM (blk_grown (bk_ BK132.out) hg (Kd.R_ne HO_5.out BK132.out (by decide))); replace HB := aM (hb); have HO138 := aM (ho); clear HO_5; clear ho hb hg hat) | go_quiet (fail))
  go_meet
  case rel => exact ⟨_, (y136), H', ⟨by have := HJ3.out; first | omega | exact Nat.le_refl _⟩, ⟨rm_ HO138.out⟩, ⟨bk_ BK132.out⟩, ⟨qz1⟩⟩
  }
  {
  (first | rw [c12b0] | (simp only [i64_w, i32_w]; rw [c12b0]) | rw [@decide_eq_false _ _ (of_decide_eq_false c12b0)] | rw [@decide_eq_false _ _ (of_decide_eq_false c12b1)] | skip)
  have H' := aM H
  clear H
  go_wp2
  repeat (go_quiet (fail); try go_wp2)
  go_meet
  case rel => exact ⟨_, (x5_3), H', ⟨by have := HJ3.out; first | omega | exact Nat.le_refl _⟩, ⟨rm_ HO_5.out⟩, ⟨bk_ BK132.out⟩, ⟨qz1⟩⟩
  }
 case rest =>
 clear HC11
 try clear c3
 try clear c3b0
 try clear c3b1
 try clear hcz6_0 hcz6_1 hcz6_2 hfz6_0 hfz6_1 hfz6_2
 obtain ⟨kq, x5_10, HA, HJ10, HO_5, BK132, HB⟩ := hcut
 cases kq with
 | zero => exact absurd HA.out (by simp [impl_beside.j1])
 | succ kj10 =>
 have H := HA.out
 clear HA
 simp only [impl_beside.j1] at H
 replace H := iE_ H
 rcases H with ⟨c15b0, H⟩ | ⟨c15b0, H⟩
 {
 replace H := iN_ H
 obtain ⟨c16, H⟩ := H
 have LMc16 := aM c16
 clear c16
 obtain ⟨y139, hy139⟩ : ∃ y_ : List Int, y_ = (x5_10 ++ [wrap64 (a1 + 1)]) := ⟨_, rfl⟩
 replace H := yB_ hy139 H
 have Ny139 := aM hy139
 clear hy139
 replace H := iE_ H
 rcases H with ⟨c17b0, H⟩ | ⟨c17b0, H⟩
 {
 replace H := iN_ H
 obtain ⟨c18, H⟩ := H
 have LMc18 := aM c18
 clear c18
 obtain ⟨y142, hy142⟩ : ∃ y_ : List Int, y_ = (y139 ++ [wrap64 (a1 + a0_0)]) := ⟨_, rfl⟩
 replace H : (some y142) = some r := by first | (rw [hy142]; exact H) | exact H
 have Ny142 := aM hy142
 clear hy142
 obtain rfl := Option.some.inj H
 obtain ⟨hcz19_0, hcz19_1, hcz19_2, hfz19_0, hfz19_1, hfz19_2⟩ := b6_ BK132.out
 go_wp2_with (first | ((with_reducible refine gate_builtin (b := .append) (xs := #[.tmp 37, .tmp 40]) rfl ?_); at_builtin; refine Kd.R_append (Kd.int .i64) (w0 := w) w.heap.size rfl (.tmp 37) (.tmp 40) 24 3 (.int .i64 0) 8 rfl Try.underlying24 info3 rfl (by decide) (by omega) u5 x5_10 (wrap64 (a1 + 1)) [.int .i64 (wrap64 (a1 + 1))] (fun _ => True) (fun _ => False) rfl rfl ?aP (fun _ hk => hk.elim) ?aF ?aO ?aB ?aS ?aL ?_; (case aP => exact rfl); (case aB => exact qz1); (case aF => exact qz12); (case aO => exact (rr_ HO_5.out)); (case aS => exact qz19); (case aL => have := LMc16.out; omega); intro v140 w20 ho hb hg hat; rw [← Ny139.out] at ho; replace BK132 := aM (blk_grown (bk_ BK132.out) hg (Kd.R_ne HO_5.out BK132.out (by decide))); replace HB := aM (hb); have HO141 := aM (ho); clear HO_5; clear ho hb hg hat; obtain ⟨hcz21_0, hcz21_1, hcz21_2, hfz21_0, hfz21_1, hfz21_2⟩ := b6_ BK132.out) | ((with_reducible refine gate_builtin (b := .append) (xs := #[.tmp 47, .tmp 52]) rfl ?_); at_builtin; refine Kd.R_append (Kd.int .i64) (w0 := w) w.heap.size rfl (.tmp 47) (.tmp 52) 24 3 (.int .i64 0) 8 rfl Try.underlying24 info3 rfl (by decide) (by omega) v140 y139 (wrap64 (a1 + a0_0)) [.int .i64 (wrap64 (a1 + a0_0))] (fun _ => True) (fun _ => False) rfl rfl ?aP (fun _ hk => hk.elim) ?aF ?aO ?aB ?aS ?aL ?_; (case aP => exact rfl); (case aB => exact qz1); (case aF => exact qz12); (case aO => exact (rr_ HO141.out)); (case aS => exact qz19); (case aL => have := LMc18.out; omega); intro v143 w22 ho hb hg hat; rw [← Ny142.out] at ho; replace BK132 := aM (blk_grown (bk_ BK132.out) hg (Kd.R_ne HO141.out BK132.out (by decide))); replace HB := aM (hb); have HO144 := aM (ho); clear HO141; clear ho hb hg hat) | go_quiet (fail))
 go_ret
 exact ⟨_, qzw, by (with_reducible repeat (first | apply Kd.R_alloc | apply Kd.R_drewN | apply Kd.R_drew)); exact HO144.out, qz1⟩
 }
 {
 obtain rfl := Option.some.inj H
 obtain ⟨hcz23_0, hcz23_1, hcz23_2, hfz23_0, hfz23_1, hfz23_2⟩ := b6_ BK132.out
 go_wp2_with (first | ((with_reducible refine gate_builtin (b := .append) (xs := #[.tmp 37, .tmp 40]) rfl ?_); at_builtin; refine Kd.R_append (Kd.int .i64) (w0 := w) w.heap.size rfl (.tmp 37) (.tmp 40) 24 3 (.int .i64 0) 8 rfl Try.underlying24 info3 rfl (by decide) (by omega) u5 x5_10 (wrap64 (a1 + 1)) [.int .i64 (wrap64 (a1 + 1))] (fun _ => True) (fun _ => False) rfl rfl ?aP (fun _ hk => hk.elim) ?aF ?aO ?aB ?aS ?aL ?_; (case aP => exact rfl); (case aB => exact qz1); (case aF => exact qz12); (case aO => exact (rr_ HO_5.out)); (case aS => exact qz19); (case aL => have := LMc16.out; omega); intro v140 w24 ho hb hg hat; rw [← Ny139.out] at ho; replace BK132 := aM (blk_grown (bk_ BK132.out) hg (Kd.R_ne HO_5.out BK132.out (by decide))); replace HB := aM (hb); have HO141 := aM (ho); clear HO_5; clear ho hb hg hat; obtain ⟨hcz25_0, hcz25_1, hcz25_2, hfz25_0, hfz25_1, hfz25_2⟩ := b6_ BK132.out) | go_quiet (fail))
 go_ret
 exact ⟨_, qzw, by (with_reducible repeat (first | apply Kd.R_alloc | apply Kd.R_drewN | apply Kd.R_drew)); exact HO141.out, qz1⟩
 }
 }
 {
 replace H := iE_ H
 rcases H with ⟨c26b0, H⟩ | ⟨c26b0, H⟩
 {
 replace H := iN_ H
 obtain ⟨c27, H⟩ := H
 have LMc27 := aM c27
 clear c27
 obtain ⟨y145, hy145⟩ : ∃ y_ : List Int, y_ = (x5_10 ++ [wrap64 (a1 + a0_0)]) := ⟨_, rfl⟩
 replace H : (some y145) = some r := by first | (rw [hy145]; exact H) | exact H
 have Ny145 := aM hy145
 clear hy145
 obtain rfl := Option.some.inj H
 obtain ⟨hcz28_0, hcz28_1, hcz28_2, hfz28_0, hfz28_1, hfz28_2⟩ := b6_ BK132.out
 go_wp2_with (first | ((with_reducible refine gate_builtin (b := .append) (xs := #[.tmp 47, .tmp 52]) rfl ?_); at_builtin; refine Kd.R_append (Kd.int .i64) (w0 := w) w.heap.size rfl (.tmp 47) (.tmp 52) 24 3 (.int .i64 0) 8 rfl Try.underlying24 info3 rfl (by decide) (by omega) u5 x5_10 (wrap64 (a1 + a0_0)) [.int .i64 (wrap64 (a1 + a0_0))] (fun _ => True) (fun _ => False) rfl rfl ?aP (fun _ hk => hk.elim) ?aF ?aO ?aB ?aS ?aL ?_; (case aP => exact rfl); (case aB => exact qz1); (case aF => exact qz12); (case aO => exact (rr_ HO_5.out)); (case aS => exact qz19); (case aL => have := LMc27.out; omega); intro v146 w29 ho hb hg hat; rw [← Ny145.out] at ho; replace BK132 := aM (blk_grown (bk_ BK132.out) hg (Kd.R_ne HO_5.out BK132.out (by decide))); replace HB := aM (hb); have HO147 := aM (ho); clear HO_5; clear ho hb hg hat) | go_quiet (fail))
 go_ret
 exact ⟨_, qzw, by (with_reducible repeat (first | apply Kd.R_alloc | apply Kd.R_drewN | apply Kd.R_drew)); exact HO147.out, qz1⟩
 }
 {
 obtain rfl := Option.some.inj H
 obtain ⟨hcz30_0, hcz30_1, hcz30_2, hfz30_0, hfz30_1, hfz30_2⟩ := b6_ BK132.out
 go_wp2
 repeat (go_quiet (fail); try go_wp2)
 go_ret
 exact ⟨_, qzw, by (with_reducible repeat (first | apply Kd.R_alloc | apply Kd.R_drewN | apply Kd.R_drew)); exact HO_5.out, qz1⟩
 }
 }
 }
end Go.Proofs.Ytankmdbbgepmbaa.PFnLively
