-- Made by a program of this session out of the translation. Lean checks it.
import Derived.Test.YtankmdbbgepmbaaPFnStepx5
import Derived.Test.YtankmdbbgepmbaaPFnStepx6
import Derived.Test.YtankmdbbgepmbaaPFnStepx7
namespace Go.Proofs.Ytankmdbbgepmbaa.PFnStep
open Go.RowKit Go.Proofs.YtankmdbbgepmbaaW.PrintWords Go.Proofs.YtankmdbbgepmbaaW.PrintLast Go.Proofs.YtankmdbbgepmbaaW.PrintMore
attribute [local go_sem] max2_int min2_int max_two min_two max_three min_three max_four min_four   -- for this text's walks alone
set_option linter.unusedVariables false
set_option linter.unusedSimpArgs false

/-! ### spec_Clash: function 37 -/
mutual
def spec_Clash.j0 : Nat → List (S37) → List Int → Bool → Int → Int → List Int → Option (Int)
 | 0, _, _, _, _, _, _ => none
 | k + 1, x1, x2, x22, x254000, x254001, x254002 => if x22 = true then (some 1) else (spec_Clash.l0 k x1 x2 0 x254000 x254001 x254002)
def spec_Clash.l0 : Nat → List (S37) → List Int → Int → Int → Int → List Int → Option (Int)
 | 0, _, _, _, _, _, _ => none
 | k + 1, x1, x2, x7, x254000, x254001, x254002 => if x7 < (x2.length : Int) then (if 0 ≤ x7 then (if x7 < (x1.length : Int) then ((spec_Choices.f k x254000 x254001 x254002 ((rd_T37 x1 x7).f0) ((rd_T37 x1 x7).f1) ((rd_T37 x1 x7).f2) ((rd_T37 x1 x7).f3) ((rd_T37 x1 x7).f4)).bind fun t256 => ((spec_l6Among.f k t256 (rd x2 x7)).bind fun t260 => (if t260 = true then (spec_Clash.l0 k x1 x2 (wrap64 (x7 + 1)) x254000 x254001 x254002) else (some 4)))) else (none)) else (none)) else (spec_Clash.l1 k x1 x2 0)
def spec_Clash.l1 : Nat → List (S37) → List Int → Int → Option (Int)
 | 0, _, _, _ => none
 | k + 1, x1, x2, x8 => if x8 < (x2.length : Int) then (spec_Clash.l2 k x1 x2 x8 0) else (spec_Clash.l3 k x1 x2 0)
def spec_Clash.l2 : Nat → List (S37) → List Int → Int → Int → Option (Int)
 | 0, _, _, _, _ => none
 | k + 1, x1, x2, x8, x9 => if x9 < x8 then (if 0 ≤ x9 then (if x9 < (x2.length : Int) then (if 0 ≤ x8 then (if x8 < (x2.length : Int) then (if (rd x2 x9) = (rd x2 x8) then (some 2) else (spec_Clash.l2 k x1 x2 x8 (wrap64 (x9 + 1)))) else (none)) else (none)) else (none)) else (none)) else (spec_Clash.l1 k x1 x2 (wrap64 (x8 + 1)))
def spec_Clash.l3 : Nat → List (S37) → List Int → Int → Option (Int)
 | 0, _, _, _ => none
 | k + 1, x1, x2, x10 => if x10 < (x2.length : Int) then (spec_Clash.l4 k x1 x2 x10 0) else (some 0)
def spec_Clash.l4 : Nat → List (S37) → List Int → Int → Int → Option (Int)
 | 0, _, _, _, _ => none
 | k + 1, x1, x2, x10, x11 => if x11 < x10 then (if 0 ≤ x11 then (if x11 < (x2.length : Int) then (if 0 ≤ x10 then (if x10 < (x1.length : Int) then (if (rd x2 x11) = ((rd_T37 x1 x10).f1) then (if x10 < (x2.length : Int) then (if x11 < (x1.length : Int) then (if (rd x2 x10) = ((rd_T37 x1 x11).f1) then (some 3) else (spec_Clash.l4 k x1 x2 x10 (wrap64 (x11 + 1)))) else (none)) else (none)) else (spec_Clash.l4 k x1 x2 x10 (wrap64 (x11 + 1)))) else (none)) else (none)) else (none)) else (none)) else (spec_Clash.l3 k x1 x2 (wrap64 (x10 + 1)))
end
def spec_Clash.f (k : Nat) (a0_0 : Int) (a0_1 : Int) (l0_2 : List Int) (l1 : List (S37)) (l2 : List Int) : Option (Int) := (spec_CrewOk.f k a0_0 a0_1 l0_2 l1).bind fun t254 => (if t254 = true then (spec_Clash.j0 k l1 l2 ((l2.length : Int) != (l1.length : Int)) a0_0 a0_1 l0_2) else (spec_Clash.j0 k l1 l2 true a0_0 a0_1 l0_2))
theorem spec_Clash.mono_l : ∀ k, (∀ y0 y1 y2 y3 y4 y5, LeO (spec_Clash.j0 k y0 y1 y2 y3 y4 y5) (spec_Clash.j0 (k + 1) y0 y1 y2 y3 y4 y5)) ∧ (∀ y0 y1 y2 y3 y4 y5, LeO (spec_Clash.l0 k y0 y1 y2 y3 y4 y5) (spec_Clash.l0 (k + 1) y0 y1 y2 y3 y4 y5)) ∧ (∀ y0 y1 y2, LeO (spec_Clash.l1 k y0 y1 y2) (spec_Clash.l1 (k + 1) y0 y1 y2)) ∧ (∀ y0 y1 y2 y3, LeO (spec_Clash.l2 k y0 y1 y2 y3) (spec_Clash.l2 (k + 1) y0 y1 y2 y3)) ∧ (∀ y0 y1 y2, LeO (spec_Clash.l3 k y0 y1 y2) (spec_Clash.l3 (k + 1) y0 y1 y2)) ∧ (∀ y0 y1 y2 y3, LeO (spec_Clash.l4 k y0 y1 y2 y3) (spec_Clash.l4 (k + 1) y0 y1 y2 y3))
 | 0 => ⟨fun _ _ _ _ _ _ r h => by simp [spec_Clash.j0] at h, fun _ _ _ _ _ _ r h => by simp [spec_Clash.l0] at h, fun _ _ _ r h => by simp [spec_Clash.l1] at h, fun _ _ _ _ r h => by simp [spec_Clash.l2] at h, fun _ _ _ r h => by simp [spec_Clash.l3] at h, fun _ _ _ _ r h => by simp [spec_Clash.l4] at h⟩
 | k + 1 => by
  obtain ⟨ih0, ih1, ih2, ih3, ih4, ih5⟩ := spec_Clash.mono_l k
  refine ⟨?_, ?_, ?_, ?_, ?_, ?_⟩
  {
  intro y0 y1 y2 y3 y4 y5
  unfold spec_Clash.j0
  have j0 := @spec_Choices.mono
  have j1 := @spec_CrewOk.mono
  have j2 := @spec_l6Among.mono
  exact qL
  }
  {
  intro y0 y1 y2 y3 y4 y5
  unfold spec_Clash.l0
  have j0 := @spec_Choices.mono
  have j1 := @spec_CrewOk.mono
  have j2 := @spec_l6Among.mono
  exact qL
  }
  {
  intro y0 y1 y2
  unfold spec_Clash.l1
  have j0 := @spec_Choices.mono
  have j1 := @spec_CrewOk.mono
  have j2 := @spec_l6Among.mono
  exact qL
  }
  {
  intro y0 y1 y2 y3
  unfold spec_Clash.l2
  have j0 := @spec_Choices.mono
  have j1 := @spec_CrewOk.mono
  have j2 := @spec_l6Among.mono
  exact qL
  }
  {
  intro y0 y1 y2
  unfold spec_Clash.l3
  have j0 := @spec_Choices.mono
  have j1 := @spec_CrewOk.mono
  have j2 := @spec_l6Among.mono
  exact qL
  }
  {
  intro y0 y1 y2 y3
  unfold spec_Clash.l4
  have j0 := @spec_Choices.mono
  have j1 := @spec_CrewOk.mono
  have j2 := @spec_l6Among.mono
  exact qL
  }
theorem spec_Clash.mono : ∀ a0 a1 a2 a3 a4 k, LeO (spec_Clash.f k a0 a1 a2 a3 a4) (spec_Clash.f (k + 1) a0 a1 a2 a3 a4) := by
 intro a0 a1 a2 a3 a4 k
 obtain ⟨ih0, ih1, ih2, ih3, ih4, ih5⟩ := spec_Clash.mono_l k
 unfold spec_Clash.f
 have j0 := @spec_Choices.mono
 have j1 := @spec_CrewOk.mono
 have j2 := @spec_l6Among.mono
 exact qL
def spec_Clash.T6 : Bool × List (List Nat × List Nat) := (true, [([], []), ([], []), ([], []), ([1, 2], [1, 2]), ([3], [3]), ([0, 4], [0, 4]), ([], []), ([], []), ([6, 7], [6, 7]), ([8], [8]), ([5, 9, 5], [5, 9]), ([10], [10])])
def spec_Clash.B6 : List Nat := [0, 0, 0, 6, 14, 31, 0, 0, 192, 448, 1023, 2047]
theorem spec_Clash.tab6 : rtab .any (opsOf Try.f37 6) = spec_Clash.T6 := by kernel_rfl
theorem spec_Clash.bits6 : waitsOk spec_Clash.T6.2 spec_Clash.B6 = true := by kernel_rfl
def spec_Clash.T14 : Bool × List (List Nat × List Nat) := (true, [([], []), ([], []), ([0, 1], [0, 1]), ([2], [2]), ([], []), ([], []), ([4, 5], [4, 5]), ([6], [6]), ([3, 7], [3, 7])])
def spec_Clash.B14 : List Nat := [0, 0, 3, 7, 0, 0, 48, 112, 255]
theorem spec_Clash.tab14 : rtab .any (opsOf Try.f37 14) = spec_Clash.T14 := by kernel_rfl
theorem spec_Clash.bits14 : waitsOk spec_Clash.T14.2 spec_Clash.B14 = true := by kernel_rfl
def spec_Clash.T22 : Bool × List (List Nat × List Nat) := (true, [([], []), ([], []), ([0, 1], [0, 1]), ([2], [2]), ([], []), ([], []), ([4, 5], [4, 5]), ([6], [6]), ([7], [7]), ([3, 8], [3, 8]), ([9], [9]), ([10], [10]), ([10], [10]), ([11, 12, 10], [10, 11, 12]), ([13, 10], [10, 13]), ([10], [10]), ([10], [10]), ([15, 16, 10], [10, 15, 16]), ([17, 10], [10, 17]), ([18, 10], [10, 18]), ([14, 19, 10], [10, 14, 19]), ([10, 20], [10, 20])])
def spec_Clash.B22 : List Nat := [0, 0, 3, 7, 0, 0, 48, 112, 240, 511, 1023, 2047, 2047, 8191, 16383, 2047, 2047, 100351, 231423, 493567, 1048575, 2097151]
theorem spec_Clash.tab22 : rtab .any (opsOf Try.f37 22) = spec_Clash.T22 := by kernel_rfl
theorem spec_Clash.bits22 : waitsOk spec_Clash.T22.2 spec_Clash.B22 = true := by kernel_rfl
set_option maxHeartbeats 8000000 in
set_option maxRecDepth 100000 in
theorem spec_Clash.calls (k : Nat) (a0_0 : Int) (a0_1 : Int) (A0_2 : Option Addr) (c0_2 : Nat) (l0_2 : List Int) (A1 : Option Addr) (c1 : Nat) (l1 : List (S37)) (A2 : Option Addr) (c2 : Nat) (l2 : List Int) (r : Int) (w : World) (hr0_2 : Kd.C (Kd.int .i64) w A0_2 l0_2.length l0_2) (hc0_2 : l0_2.length ≤ c0_2) (hr1 : Kd.C k37 w A1 l1.length l1) (hc1 : l1.length ≤ c1) (hr2 : Kd.C (Kd.int .i64) w A2 l2.length l2) (hc2 : l2.length ≤ c2) (h : spec_Clash.f k a0_0 a0_1 l0_2 l1 l2 = some r) :
  Calls Try.prog 37 #[.agg #[.int .i64 a0_0, .int .i64 a0_1, .slice A0_2 l0_2.length c0_2], .slice A1 l1.length c1, .slice A2 l2.length c2] w fun e w' => e = .returned (.int .i64 r) ∧ Below w.heap.size w w' := by
 have hu43 := Try.underlying43
 have hu37 := Try.underlying37
 have HR0_2 := aM hr0_2
 have HC0_2 := aM hc0_2
 clear hr0_2 hc0_2
 have HR1 := aM hr1
 have HC1 := aM hc1
 clear hr1 hc1
 have HR2 := aM hr2
 have HC2 := aM hc2
 clear hr2 hc2
 have HB := aM (Below.refl w.heap.size w)
 unfold spec_Clash.f at h
 have H := h
 clear h
 have HC4 := aM H
 clear H
 go_enter Try.func37, Try.ntmps37
 go_upto_region 1 with (first | ((with_reducible refine gate_dst (N := 3) rfl ?_); (try (refine gate_guard (by rfl) ?_; dsimp only)); refine bx_ 3 #[.int .i64 a0_0, .int .i64 a0_1, .slice A0_2 l0_2.length c0_2] 43 ?_; intro gb253 hg w5 hbox hb; have BK253 := aM (hbox); have GW253 := aM (bz_ w hg qz1); have GE253 := GW253; replace HB := bS_ hb; clear hb hbox hg))
 (try simp only [Act.put, List.setIfInBounds_toArray, List.set_cons_zero, List.set_cons_succ])
 go_cut [22] (fun v22 wc => ∃ (kq : Nat) (x22_3 : Bool), v22 = .bool x22_3 ∧ Aside0 (spec_Clash.j0 kq l1 l2 x22_3 a0_0 a0_1 l0_2 = some r) ∧ Aside0 (kq ≤ k) ∧ Aside0 (wc.heap[gb253]? = some (.cells #[.int .i64 a0_0, .int .i64 a0_1, (.slice A0_2 l0_2.length c0_2)] 43 (0, 0))) ∧ Aside0 (Below w.heap.size w wc))
 case first =>
  have H := HC4.out
  clear HC4
  replace H := Option.bind_eq_some_iff.mp H
  obtain ⟨t254, A60, H⟩ := H
  have A6 := aM A60
  clear A60
  replace H := iB_ H
  rcases H with ⟨rfl, H⟩ | ⟨rfl, H⟩
  {
  have H' := aM H
  clear H
  obtain ⟨hcz8_0, hcz8_1, hcz8_2, hfz8_0, hfz8_1, hfz8_2⟩ := b6_ BK253.out
  go_wp2_with (first | ((with_reducible refine gate_callee (f := 76) rfl ?_); refine goesL_ (some 14) rfl rfl Try.func76 (by kernel_rfl) rfl #[.agg #[.int .i64 a0_0, .int .i64 a0_1, .slice A0_2 l0_2.length c0_2], .slice A1 l1.length c1] rfl qz2 ?_; (with_reducible refine (spec_CrewOk.calls k a0_0 a0_1 _ _ l0_2 _ _ l1 true _ ?_ ?_ ?_ ?_ A6.out).mono ?_); exact qz4; exact qz29; exact qz12; exact HC1.out; rintro e w9 ⟨rfl, hb⟩; refine ⟨_, rfl, ?_⟩; replace BK253 := bB_ BK253 hb; replace HB := bS_ hb; (try clear hb)))
  go_meet
  case rel => exact ⟨_, (((l2.length : Int) != (l1.length : Int))), qz5, H', ⟨by first | omega | exact Nat.le_refl _⟩, ⟨bk_ BK253.out⟩, ⟨qz1⟩⟩
  }
  {
  have H' := aM H
  clear H
  obtain ⟨hcz10_0, hcz10_1, hcz10_2, hfz10_0, hfz10_1, hfz10_2⟩ := b6_ BK253.out
  go_wp2_with (first | ((with_reducible refine gate_callee (f := 76) rfl ?_); refine goesL_ (some 14) rfl rfl Try.func76 (by kernel_rfl) rfl #[.agg #[.int .i64 a0_0, .int .i64 a0_1, .slice A0_2 l0_2.length c0_2], .slice A1 l1.length c1] rfl qz2 ?_; (with_reducible refine (spec_CrewOk.calls k a0_0 a0_1 _ _ l0_2 _ _ l1 false _ ?_ ?_ ?_ ?_ A6.out).mono ?_); exact qz4; exact qz29; exact qz12; exact HC1.out; rintro e w11 ⟨rfl, hb⟩; refine ⟨_, rfl, ?_⟩; replace BK253 := bB_ BK253 hb; replace HB := bS_ hb; (try clear hb)))
  go_meet
  case rel => exact ⟨_, (true), qz5, H', ⟨by first | omega | exact Nat.le_refl _⟩, ⟨bk_ BK253.out⟩, ⟨qz1⟩⟩
  }
 case rest =>
 clear HC4
 try clear c1
 try clear c2
 obtain ⟨kq, x22_3, rfl, HA, HJ3, BK253, HB⟩ := hcut
 cases kq with
 | zero => exact absurd HA.out (by simp [spec_Clash.j0])
 | succ kj3 =>
 have H := HA.out
 clear HA
 simp only [spec_Clash.j0] at H
 replace H := iB_ H
 rcases H with ⟨rfl, H⟩ | ⟨rfl, H⟩
 {
 obtain rfl := Option.some.inj H
 go_wp2
 go_ret
 exact ⟨qzw, qz1⟩
 }
 {
 have H' := aM H
 clear H
 go_wp2
 go_loopg [7] kj3 (fun kq v7 w' => ∃ (x7_2 : Int), v7 = .int .i64 x7_2 ∧ Aside0 (spec_Clash.l0 kq l1 l2 x7_2 a0_0 a0_1 l0_2 = some r) ∧ Aside0 (kq ≤ kj3) ∧ Aside0 (w'.heap[gb253]? = some (.cells #[.int .i64 a0_0, .int .i64 a0_1, (.slice A0_2 l0_2.length c0_2)] 43 (0, 0))) ∧ Aside0 (Below w.heap.size w w'))
 case atStart => exact ⟨(0), qz5, H', ⟨Nat.le_refl _⟩, ⟨bk_ BK253.out⟩, ⟨qz1⟩⟩
 case round =>
 clear H'
 try clear c1
 try clear c2
 try clear c12
 obtain ⟨x7_2, rfl, HA, HK2, BK253, HB⟩ := hrel
 cases gk with
 | zero => exact absurd HA.out (by simp [spec_Clash.l0])
 | succ k2 =>
 have H := HA.out
 clear HA
 simp only [spec_Clash.l0] at H
 replace H := iE_ H
 rcases H with ⟨c13b0, H⟩ | ⟨c13b0, H⟩
 {
 replace H := iD_ H
 obtain ⟨c14b0, H⟩ := H
 replace H := iD_ H
 obtain ⟨c15b0, H⟩ := H
 replace H := Option.bind_eq_some_iff.mp H
 obtain ⟨t256, A160, H⟩ := H
 have A16 := aM A160
 clear A160
 replace H := Option.bind_eq_some_iff.mp H
 obtain ⟨t260, A170, H⟩ := H
 have A17 := aM A170
 clear A170
 replace H := iB_ H
 rcases H with ⟨rfl, H⟩ | ⟨rfl, H⟩
 {
 have H' := aM H
 clear H
 try go_wp2
 replace BK253 := aM (blk_drew BK253.out)
 replace HB := aM (below_drew1 HB.out)
 have p255 : (0 ≤ (x7_2 : Int)) = True := et_
 have q255 : (x7_2 < (l1.length : Int)) = True := et_
 obtain ⟨ad255, e255, hx255_0, hx255_1, hx255_2, hx255_3, hx255_4⟩ := at_T37 HR1.out x7_2 dt_ dt_
 have hw255_4 := hx255_4
 have hw255_3 := hx255_3
 have hw255_2 := hx255_2
 have hw255_1 := hx255_1
 have hw255_0 := hx255_0
 cases e255
 replace hx255_0 := cB_ hx255_0
 replace hx255_1 := cB_ hx255_1
 replace hx255_2 := cB_ hx255_2
 replace hx255_3 := cB_ hx255_3
 replace hx255_4 := cB_ hx255_4
 have p259 : (0 ≤ (x7_2 : Int)) = True := et_
 have q259 : (x7_2 < (l2.length : Int)) = True := et_
 obtain ⟨ad259, e259, hx259_0⟩ := Kd.at_int HR2.out x7_2 dt_ dt_
 have hw259_0 := hx259_0
 cases e259
 replace hx259_0 := cB_ hx259_0
 refine start_ (n := 12) (S := fun w' => w'.cell? ⟨gb253, 0, none⟩ = some (.int .i64 a0_0) ∧ w'.cell? ⟨gb253, 1, none⟩ = some (.int .i64 a0_1) ∧ w'.cell? ⟨gb253, 2, none⟩ = some (.slice A0_2 l0_2.length c0_2) ∧ w'.cell? (ad255.add ((x7_2).toNat * 5)) = some (.int .i64 ((rd_T37 l1 x7_2).f0)) ∧ w'.cell? ⟨(ad255.add ((x7_2).toNat * 5)).block, (ad255.add ((x7_2).toNat * 5)).off + 1, none⟩ = some (.int .i64 ((rd_T37 l1 x7_2).f1)) ∧ w'.cell? ⟨(ad255.add ((x7_2).toNat * 5)).block, (ad255.add ((x7_2).toNat * 5)).off + 2, none⟩ = some (.int .i64 ((rd_T37 l1 x7_2).f2)) ∧ w'.cell? ⟨(ad255.add ((x7_2).toNat * 5)).block, (ad255.add ((x7_2).toNat * 5)).off + 3, none⟩ = some (.bool ((rd_T37 l1 x7_2).f3)) ∧ w'.cell? ⟨(ad255.add ((x7_2).toNat * 5)).block, (ad255.add ((x7_2).toNat * 5)).off + 4, none⟩ = some (.int .i64 ((rd_T37 l1 x7_2).f4)) ∧ w'.cell? (ad259.add (x7_2).toNat) = some (.int .i64 (rd l2 x7_2))) (ds := []) #[false, false, false, false, false, false, false, false, false, false, false, false] (by kernel_rfl) rfl rfl ⟨(blk_cell BK253.out 0).trans rfl, (blk_cell BK253.out 1).trans rfl, (blk_cell BK253.out 2).trans rfl, (cB_ hw255_0), (cB_ hw255_1), (cB_ hw255_2), (cB_ hw255_3), (cB_ hw255_4), (cB_ hw259_0)⟩ (fun hHeld => ?_); refine with_tabW spec_Clash.tab6 spec_Clash.bits6 (fun HT_ HW_ => ?_)
 generalize wr.drew = w19 at BK253 HB hx255_0 hx255_1 hx255_2 hx255_3 hx255_4 hx259_0 hHeld ⊢
 refine pI_ 1 30 (bqz 12 2) ?_
 refine jI_ 2 31 ?_
 refine jI_ 3 32 ?_
 refine jI_ 6 35 ?_
 refine jI_ 7 36 ?_
 refine jI_ 8 37 ?_
 refine sI9_ 0 29 ?_
 refine sI9_ 4 33 ?_
 refine sI9_ 9 38 ?_
 refine oI_ 5 34 (bqz 12 1023) (fun K hK => ?_)
 refine goes_ Try.func26 (by kernel_rfl) rfl #[.agg #[.int .i64 a0_0, .int .i64 a0_1, .slice A0_2 l0_2.length c0_2], .agg #[.int .i64 ((rd_T37 l1 x7_2).f0), .int .i64 ((rd_T37 l1 x7_2).f1), .int .i64 ((rd_T37 l1 x7_2).f2), .bool ((rd_T37 l1 x7_2).f3), .int .i64 ((rd_T37 l1 x7_2).f4)]] (by rfl) rfl rfl qz2 ?_
 with_reducible refine (spec_Choices.calls k2 a0_0 a0_1 _ _ l0_2 ((rd_T37 l1 x7_2).f0) ((rd_T37 l1 x7_2).f1) ((rd_T37 l1 x7_2).f2) ((rd_T37 l1 x7_2).f3) ((rd_T37 l1 x7_2).f4) t256 _ ?side1 ?side2 A16.out).mono ?_
 (case side1 => exact qz4)
 (case side2 => exact qz29)
 rintro e w20 ⟨v257, rfl, ho0, hb⟩
 refine ⟨_, rfl, ?_⟩
 have HO258 := aM (Kd.R_lower ho0 (below_size qz1))
 replace BK253 := bB_ BK253 hb
 replace HB := bS_ hb
 (try clear hb)
 (try clear hb2)
 (try clear hk)
 (try clear hi)
 (try clear ho0)
 obtain ⟨Ao21, co21, eo21⟩ := Kd.R_slice HO258.out
 (first | subst eo21 | (injection eo21 with f1_ f2_ f3_; have f4_ := f1_.symm; have f5_ := f3_.symm; clear f1_ f2_ f3_; subst f4_; subst f5_))
 refine hK.out _ _ (b3A_ BK253 ⟨(cB_ hw255_0), (cB_ hw255_1), (cB_ hw255_2), (cB_ hw255_3), (cB_ hw255_4), (cB_ hw259_0)⟩) (fun hHeld => ?_)
 clear hK K
 refine nm_ 34 ?_
 refine oI_ 10 39 (bqz 12 2047) (fun K hK => ?_)
 refine goes_ Try.func77 (by kernel_rfl) rfl #[.slice Ao21 t256.length co21, .int .i64 (rd l2 x7_2)] (by rfl) rfl rfl qz2 ?_
 with_reducible refine (spec_l6Among.calls k2 _ _ t256 (rd l2 x7_2) true _ ?side1 ?side2 A17.out).mono ?_
 (case side1 => repeat (first | exact (Kd.R_reads' HO258.out).2.2 | (with_reducible refine Kd.C_alloc ?_ _) | (with_reducible refine Kd.C_drewN ?_ _) | (with_reducible refine Kd.C_drew ?_)))
 (case side2 => exact (Kd.R_reads' HO258.out).2.1)
 rintro e w' ⟨rfl, ⟨nd, rfl⟩⟩
 refine ⟨_, rfl, ?_⟩
 refine hK.out _ _ (b3A_ BK253 ⟨(cB_ hw255_0), (cB_ hw255_1), (cB_ hw255_2), (cB_ hw255_3), (cB_ hw255_4), (cB_ hw259_0)⟩) (fun hHeld => ?_)
 clear hK K
 refine nm_ 39 ?_
 refine pI_ 11 40 (bqz 12 4095) ?_
 refine done_ (done_of HT_.out (by kernel_rfl)) ?_
 try go_wp2
 go_roundg k2
 case measure => have := HJ3.out; have := HK2.out; omega
 case rel => exact ⟨(wrap64 (x7_2 + 1)), qz5, H', ⟨by have := HJ3.out; have := HK2.out; omega⟩, ⟨bk_ BK253.out⟩, ⟨qz1⟩⟩
 }
 {
 obtain rfl := Option.some.inj H
 try go_wp2
 replace BK253 := aM (blk_drew BK253.out)
 replace HB := aM (below_drew1 HB.out)
 have p255 : (0 ≤ (x7_2 : Int)) = True := et_
 have q255 : (x7_2 < (l1.length : Int)) = True := et_
 obtain ⟨ad255, e255, hx255_0, hx255_1, hx255_2, hx255_3, hx255_4⟩ := at_T37 HR1.out x7_2 dt_ dt_
 have hw255_4 := hx255_4
 have hw255_3 := hx255_3
 have hw255_2 := hx255_2
 have hw255_1 := hx255_1
 have hw255_0 := hx255_0
 cases e255
 replace hx255_0 := cB_ hx255_0
 replace hx255_1 := cB_ hx255_1
 replace hx255_2 := cB_ hx255_2
 replace hx255_3 := cB_ hx255_3
 replace hx255_4 := cB_ hx255_4
 have p259 : (0 ≤ (x7_2 : Int)) = True := et_
 have q259 : (x7_2 < (l2.length : Int)) = True := et_
 obtain ⟨ad259, e259, hx259_0⟩ := Kd.at_int HR2.out x7_2 dt_ dt_
 have hw259_0 := hx259_0
 cases e259
 replace hx259_0 := cB_ hx259_0
 refine start_ (n := 12) (S := fun w' => w'.cell? ⟨gb253, 0, none⟩ = some (.int .i64 a0_0) ∧ w'.cell? ⟨gb253, 1, none⟩ = some (.int .i64 a0_1) ∧ w'.cell? ⟨gb253, 2, none⟩ = some (.slice A0_2 l0_2.length c0_2) ∧ w'.cell? (ad255.add ((x7_2).toNat * 5)) = some (.int .i64 ((rd_T37 l1 x7_2).f0)) ∧ w'.cell? ⟨(ad255.add ((x7_2).toNat * 5)).block, (ad255.add ((x7_2).toNat * 5)).off + 1, none⟩ = some (.int .i64 ((rd_T37 l1 x7_2).f1)) ∧ w'.cell? ⟨(ad255.add ((x7_2).toNat * 5)).block, (ad255.add ((x7_2).toNat * 5)).off + 2, none⟩ = some (.int .i64 ((rd_T37 l1 x7_2).f2)) ∧ w'.cell? ⟨(ad255.add ((x7_2).toNat * 5)).block, (ad255.add ((x7_2).toNat * 5)).off + 3, none⟩ = some (.bool ((rd_T37 l1 x7_2).f3)) ∧ w'.cell? ⟨(ad255.add ((x7_2).toNat * 5)).block, (ad255.add ((x7_2).toNat * 5)).off + 4, none⟩ = some (.int .i64 ((rd_T37 l1 x7_2).f4)) ∧ w'.cell? (ad259.add (x7_2).toNat) = some (.int .i64 (rd l2 x7_2))) (ds := []) #[false, false, false, false, false, false, false, false, false, false, false, false] (by kernel_rfl) rfl rfl ⟨(blk_cell BK253.out 0).trans rfl, (blk_cell BK253.out 1).trans rfl, (blk_cell BK253.out 2).trans rfl, (cB_ hw255_0), (cB_ hw255_1), (cB_ hw255_2), (cB_ hw255_3), (cB_ hw255_4), (cB_ hw259_0)⟩ (fun hHeld => ?_); refine with_tabW spec_Clash.tab6 spec_Clash.bits6 (fun HT_ HW_ => ?_)
 generalize wr.drew = w22 at BK253 HB hx255_0 hx255_1 hx255_2 hx255_3 hx255_4 hx259_0 hHeld ⊢
 refine pI_ 1 30 (bqz 12 2) ?_
 refine jI_ 2 31 ?_
 refine jI_ 3 32 ?_
 refine jI_ 6 35 ?_
 refine jI_ 7 36 ?_
 refine jI_ 8 37 ?_
 refine sI9_ 0 29 ?_
 refine sI9_ 4 33 ?_
 refine sI9_ 9 38 ?_
 refine oI_ 5 34 (bqz 12 1023) (fun K hK => ?_)
 refine goes_ Try.func26 (by kernel_rfl) rfl #[.agg #[.int .i64 a0_0, .int .i64 a0_1, .slice A0_2 l0_2.length c0_2], .agg #[.int .i64 ((rd_T37 l1 x7_2).f0), .int .i64 ((rd_T37 l1 x7_2).f1), .int .i64 ((rd_T37 l1 x7_2).f2), .bool ((rd_T37 l1 x7_2).f3), .int .i64 ((rd_T37 l1 x7_2).f4)]] (by rfl) rfl rfl qz2 ?_
 with_reducible refine (spec_Choices.calls k2 a0_0 a0_1 _ _ l0_2 ((rd_T37 l1 x7_2).f0) ((rd_T37 l1 x7_2).f1) ((rd_T37 l1 x7_2).f2) ((rd_T37 l1 x7_2).f3) ((rd_T37 l1 x7_2).f4) t256 _ ?side1 ?side2 A16.out).mono ?_
 (case side1 => exact qz4)
 (case side2 => exact qz29)
 rintro e w23 ⟨v257, rfl, ho0, hb⟩
 refine ⟨_, rfl, ?_⟩
 have HO258 := aM (Kd.R_lower ho0 (below_size qz1))
 replace BK253 := bB_ BK253 hb
 replace HB := bS_ hb
 (try clear hb)
 (try clear hb2)
 (try clear hk)
 (try clear hi)
 (try clear ho0)
 obtain ⟨Ao24, co24, eo24⟩ := Kd.R_slice HO258.out
 (first | subst eo24 | (injection eo24 with f1_ f2_ f3_; have f4_ := f1_.symm; have f5_ := f3_.symm; clear f1_ f2_ f3_; subst f4_; subst f5_))
 refine hK.out _ _ (b3A_ BK253 ⟨(cB_ hw255_0), (cB_ hw255_1), (cB_ hw255_2), (cB_ hw255_3), (cB_ hw255_4), (cB_ hw259_0)⟩) (fun hHeld => ?_)
 clear hK K
 refine nm_ 34 ?_
 refine oI_ 10 39 (bqz 12 2047) (fun K hK => ?_)
 refine goes_ Try.func77 (by kernel_rfl) rfl #[.slice Ao24 t256.length co24, .int .i64 (rd l2 x7_2)] (by rfl) rfl rfl qz2 ?_
 with_reducible refine (spec_l6Among.calls k2 _ _ t256 (rd l2 x7_2) false _ ?side1 ?side2 A17.out).mono ?_
 (case side1 => repeat (first | exact (Kd.R_reads' HO258.out).2.2 | (with_reducible refine Kd.C_alloc ?_ _) | (with_reducible refine Kd.C_drewN ?_ _) | (with_reducible refine Kd.C_drew ?_)))
 (case side2 => exact (Kd.R_reads' HO258.out).2.1)
 rintro e w' ⟨rfl, ⟨nd, rfl⟩⟩
 refine ⟨_, rfl, ?_⟩
 refine hK.out _ _ (b3A_ BK253 ⟨(cB_ hw255_0), (cB_ hw255_1), (cB_ hw255_2), (cB_ hw255_3), (cB_ hw255_4), (cB_ hw259_0)⟩) (fun hHeld => ?_)
 clear hK K
 refine nm_ 39 ?_
 refine pI_ 11 40 (bqz 12 4095) ?_
 refine done_ (done_of HT_.out (by kernel_rfl)) ?_
 try go_wp2
 go_ret
 exact ⟨qzw, qz1⟩
 }
 }
 {
 have H' := aM H
 clear H
 go_wp2
 go_loopg [8] k2 (fun kq v8 w' => ∃ (x8_3 : Int), v8 = .int .i64 x8_3 ∧ Aside0 (spec_Clash.l1 kq l1 l2 x8_3 = some r) ∧ Aside0 (kq ≤ k2) ∧ Aside0 (w'.heap[gb253]? = some (.cells #[.int .i64 a0_0, .int .i64 a0_1, (.slice A0_2 l0_2.length c0_2)] 43 (0, 0))) ∧ Aside0 (Below w.heap.size w w'))
 case atStart => exact ⟨(0), qz5, H', ⟨Nat.le_refl _⟩, ⟨bk_ BK253.out⟩, ⟨qz1⟩⟩
 case round =>
 clear H'
 try clear c1
 try clear c2
 try clear c12
 try clear c13
 try clear c13b0
 obtain ⟨x8_3, rfl, HA, HK3, BK253, HB⟩ := hrel
 cases gk with
 | zero => exact absurd HA.out (by simp [spec_Clash.l1])
 | succ k3 =>
 have H := HA.out
 clear HA
 simp only [spec_Clash.l1] at H
 replace H := iE_ H
 rcases H with ⟨c25b0, H⟩ | ⟨c25b0, H⟩
 {
 have H' := aM H
 clear H
 go_wp2
 go_loopg [9] k3 (fun kq v9 w' => ∃ (x9_4 : Int), v9 = .int .i64 x9_4 ∧ Aside0 (spec_Clash.l2 kq l1 l2 x8_3 x9_4 = some r) ∧ Aside0 (kq ≤ k3) ∧ Aside0 (w'.heap[gb253]? = some (.cells #[.int .i64 a0_0, .int .i64 a0_1, (.slice A0_2 l0_2.length c0_2)] 43 (0, 0))) ∧ Aside0 (Below w.heap.size w w'))
 case atStart => exact ⟨(0), qz5, H', ⟨Nat.le_refl _⟩, ⟨bk_ BK253.out⟩, ⟨qz1⟩⟩
 case round =>
 clear H'
 try clear c1
 try clear c2
 try clear c12
 try clear c13
 try clear c13b0
 try clear c25
 try clear c25b0
 obtain ⟨x9_4, rfl, HA, HK4, BK253, HB⟩ := hrel
 cases gk with
 | zero => exact absurd HA.out (by simp [spec_Clash.l2])
 | succ k4 =>
 have H := HA.out
 clear HA
 simp only [spec_Clash.l2] at H
 replace H := iE_ H
 rcases H with ⟨c26b0, H⟩ | ⟨c26b0, H⟩
 {
 replace H := iD_ H
 obtain ⟨c27b0, H⟩ := H
 replace H := iD_ H
 obtain ⟨c28b0, H⟩ := H
 replace H := iD_ H
 obtain ⟨c29b0, H⟩ := H
 replace H := iD_ H
 obtain ⟨c30b0, H⟩ := H
 replace H := iQ_ H
 rcases H with ⟨c31b0, c31b1, H⟩ | ⟨c31, c31b0, c31b1, H⟩
 {
 obtain rfl := Option.some.inj H
 try go_wp2
 replace BK253 := aM (blk_drew BK253.out)
 replace HB := aM (below_drew1 HB.out)
 have p261 : (0 ≤ (x9_4 : Int)) = True := et_
 have q261 : (x9_4 < (l2.length : Int)) = True := et_
 obtain ⟨ad261, e261, hx261_0⟩ := Kd.at_int HR2.out x9_4 dt_ dt_
 have hw261_0 := hx261_0
 cases e261
 replace hx261_0 := cB_ hx261_0
 have p262 : (0 ≤ (x8_3 : Int)) = True := et_
 have q262 : (x8_3 < (l2.length : Int)) = True := et_
 obtain ⟨ad262, e262, hx262_0⟩ := Kd.at_int HR2.out x8_3 dt_ dt_
 have hw262_0 := hx262_0
 obtain rfl : ad261 = ad262 := (by injection e262)
 replace hx262_0 := cB_ hx262_0
 refine start_ (n := 9) (S := fun w' => w'.cell? (ad261.add (x9_4).toNat) = some (.int .i64 (rd l2 x9_4)) ∧ w'.cell? (ad261.add (x8_3).toNat) = some (.int .i64 (rd l2 x8_3))) (ds := []) #[false, false, false, false, false, false, false, false, false] (by kernel_rfl) rfl rfl ⟨(cB_ hw261_0), (cB_ hw262_0)⟩ (fun hHeld => ?_); refine with_tabW spec_Clash.tab14 spec_Clash.bits14 (fun HT_ HW_ => ?_)
 generalize wr.drew = w32 at BK253 HB hx261_0 hx262_0 hHeld ⊢
 refine pI_ 0 52 (bqz 9 1) ?_
 refine jI_ 1 53 ?_
 refine jI_ 2 54 ?_
 refine jI_ 4 56 ?_
 refine jI_ 5 57 ?_
 refine jI_ 6 58 ?_
 refine sI2_ 3 55 ?_
 refine sI2_ 7 59 ?_
 refine jI_ 8 60 ?_
 refine done_ (done_of HT_.out (by kernel_rfl)) ?_
 try go_wp2
 go_ret
 exact ⟨qzw, qz1⟩
 }
 {
 have H' := aM H
 clear H
 try go_wp2
 replace BK253 := aM (blk_drew BK253.out)
 replace HB := aM (below_drew1 HB.out)
 have p261 : (0 ≤ (x9_4 : Int)) = True := et_
 have q261 : (x9_4 < (l2.length : Int)) = True := et_
 obtain ⟨ad261, e261, hx261_0⟩ := Kd.at_int HR2.out x9_4 dt_ dt_
 have hw261_0 := hx261_0
 cases e261
 replace hx261_0 := cB_ hx261_0
 have p262 : (0 ≤ (x8_3 : Int)) = True := et_
 have q262 : (x8_3 < (l2.length : Int)) = True := et_
 obtain ⟨ad262, e262, hx262_0⟩ := Kd.at_int HR2.out x8_3 dt_ dt_
 have hw262_0 := hx262_0
 obtain rfl : ad261 = ad262 := (by injection e262)
 replace hx262_0 := cB_ hx262_0
 refine start_ (n := 9) (S := fun w' => w'.cell? (ad261.add (x9_4).toNat) = some (.int .i64 (rd l2 x9_4)) ∧ w'.cell? (ad261.add (x8_3).toNat) = some (.int .i64 (rd l2 x8_3))) (ds := []) #[false, false, false, false, false, false, false, false, false] (by kernel_rfl) rfl rfl ⟨(cB_ hw261_0), (cB_ hw262_0)⟩ (fun hHeld => ?_); refine with_tabW spec_Clash.tab14 spec_Clash.bits14 (fun HT_ HW_ => ?_)
 generalize wr.drew = w33 at BK253 HB hx261_0 hx262_0 hHeld ⊢
 refine pI_ 0 52 (bqz 9 1) ?_
 refine jI_ 1 53 ?_
 refine jI_ 2 54 ?_
 refine jI_ 4 56 ?_
 refine jI_ 5 57 ?_
 refine jI_ 6 58 ?_
 refine sI2_ 3 55 ?_
 refine sI2_ 7 59 ?_
 refine jI_ 8 60 ?_
 refine done_ (done_of HT_.out (by kernel_rfl)) ?_
 try go_wp2
 go_roundg k4
 case measure => have := HJ3.out; have := HK2.out; have := HK3.out; have := HK4.out; omega
 case rel => exact ⟨(wrap64 (x9_4 + 1)), qz5, H', ⟨by have := HJ3.out; have := HK2.out; have := HK3.out; have := HK4.out; omega⟩, ⟨bk_ BK253.out⟩, ⟨qz1⟩⟩
 }
 }
 {
 have H' := aM H
 clear H
 go_wp2
 go_roundg k4
 case measure => have := HJ3.out; have := HK2.out; have := HK3.out; have := HK4.out; omega
 case rel => exact ⟨(wrap64 (x8_3 + 1)), qz5, H', ⟨by have := HJ3.out; have := HK2.out; have := HK3.out; have := HK4.out; omega⟩, ⟨bk_ BK253.out⟩, ⟨qz1⟩⟩
 }
 }
 {
 have H' := aM H
 clear H
 go_wp2
 go_loopg [10] k3 (fun kq v10 w' => ∃ (x10_4 : Int), v10 = .int .i64 x10_4 ∧ Aside0 (spec_Clash.l3 kq l1 l2 x10_4 = some r) ∧ Aside0 (kq ≤ k3) ∧ Aside0 (w'.heap[gb253]? = some (.cells #[.int .i64 a0_0, .int .i64 a0_1, (.slice A0_2 l0_2.length c0_2)] 43 (0, 0))) ∧ Aside0 (Below w.heap.size w w'))
 case atStart => exact ⟨(0), qz5, H', ⟨Nat.le_refl _⟩, ⟨bk_ BK253.out⟩, ⟨qz1⟩⟩
 case round =>
 clear H'
 try clear c1
 try clear c2
 try clear c12
 try clear c13
 try clear c13b0
 try clear c25
 try clear c25b0
 obtain ⟨x10_4, rfl, HA, HK4, BK253, HB⟩ := hrel
 cases gk with
 | zero => exact absurd HA.out (by simp [spec_Clash.l3])
 | succ k4 =>
 have H := HA.out
 clear HA
 simp only [spec_Clash.l3] at H
 replace H := iE_ H
 rcases H with ⟨c34b0, H⟩ | ⟨c34b0, H⟩
 {
 have H' := aM H
 clear H
 go_wp2
 go_loopg [11] k4 (fun kq v11 w' => ∃ (x11_5 : Int), v11 = .int .i64 x11_5 ∧ Aside0 (spec_Clash.l4 kq l1 l2 x10_4 x11_5 = some r) ∧ Aside0 (kq ≤ k4) ∧ Aside0 (w'.heap[gb253]? = some (.cells #[.int .i64 a0_0, .int .i64 a0_1, (.slice A0_2 l0_2.length c0_2)] 43 (0, 0))) ∧ Aside0 (Below w.heap.size w w'))
 case atStart => exact ⟨(0), qz5, H', ⟨Nat.le_refl _⟩, ⟨bk_ BK253.out⟩, ⟨qz1⟩⟩
 case round =>
 clear H'
 try clear c1
 try clear c2
 try clear c12
 try clear c13
 try clear c13b0
 try clear c25
 try clear c25b0
 try clear c34
 try clear c34b0
 obtain ⟨x11_5, rfl, HA, HK5, BK253, HB⟩ := hrel
 cases gk with
 | zero => exact absurd HA.out (by simp [spec_Clash.l4])
 | succ k5 =>
 have H := HA.out
 clear HA
 simp only [spec_Clash.l4] at H
 replace H := iE_ H
 rcases H with ⟨c35b0, H⟩ | ⟨c35b0, H⟩
 {
 replace H := iD_ H
 obtain ⟨c36b0, H⟩ := H
 replace H := iD_ H
 obtain ⟨c37b0, H⟩ := H
 replace H := iD_ H
 obtain ⟨c38b0, H⟩ := H
 replace H := iD_ H
 obtain ⟨c39b0, H⟩ := H
 replace H := iQ_ H
 rcases H with ⟨c40b0, c40b1, H⟩ | ⟨c40, c40b0, c40b1, H⟩
 {
 replace H := iD_ H
 obtain ⟨c41b0, H⟩ := H
 replace H := iD_ H
 obtain ⟨c42b0, H⟩ := H
 replace H := iQ_ H
 rcases H with ⟨c43b0, c43b1, H⟩ | ⟨c43, c43b0, c43b1, H⟩
 {
 obtain rfl := Option.some.inj H
 try go_wp2
 replace BK253 := aM (blk_drew BK253.out)
 replace HB := aM (below_drew1 HB.out)
 have p263 : (0 ≤ (x11_5 : Int)) = True := et_
 have q263 : (x11_5 < (l2.length : Int)) = True := et_
 obtain ⟨ad263, e263, hx263_0⟩ := Kd.at_int HR2.out x11_5 dt_ dt_
 have hw263_0 := hx263_0
 cases e263
 replace hx263_0 := cB_ hx263_0
 have p264 : (0 ≤ (x10_4 : Int)) = True := et_
 have q264 : (x10_4 < (l1.length : Int)) = True := et_
 obtain ⟨ad264, e264, hx264_0, hx264_1, hx264_2, hx264_3, hx264_4⟩ := at_T37 HR1.out x10_4 dt_ dt_
 have hw264_4 := hx264_4
 have hw264_3 := hx264_3
 have hw264_2 := hx264_2
 have hw264_1 := hx264_1
 have hw264_0 := hx264_0
 cases e264
 replace hx264_0 := cB_ hx264_0
 replace hx264_1 := cB_ hx264_1
 replace hx264_2 := cB_ hx264_2
 replace hx264_3 := cB_ hx264_3
 replace hx264_4 := cB_ hx264_4
 have p265 : (0 ≤ (x10_4 : Int)) = True := et_
 have q265 : (x10_4 < (l2.length : Int)) = True := et_
 obtain ⟨ad265, e265, hx265_0⟩ := Kd.at_int HR2.out x10_4 dt_ dt_
 have hw265_0 := hx265_0
 obtain rfl : ad263 = ad265 := (by injection e265)
 replace hx265_0 := cB_ hx265_0
 have p266 : (0 ≤ (x11_5 : Int)) = True := et_
 have q266 : (x11_5 < (l1.length : Int)) = True := et_
 obtain ⟨ad266, e266, hx266_0, hx266_1, hx266_2, hx266_3, hx266_4⟩ := at_T37 HR1.out x11_5 dt_ dt_
 have hw266_4 := hx266_4
 have hw266_3 := hx266_3
 have hw266_2 := hx266_2
 have hw266_1 := hx266_1
 have hw266_0 := hx266_0
 obtain rfl : ad264 = ad266 := (by injection e266)
 replace hx266_0 := cB_ hx266_0
 replace hx266_1 := cB_ hx266_1
 replace hx266_2 := cB_ hx266_2
 replace hx266_3 := cB_ hx266_3
 replace hx266_4 := cB_ hx266_4
 refine start_ (n := 22) (S := fun w' => w'.cell? (ad263.add (x11_5).toNat) = some (.int .i64 (rd l2 x11_5)) ∧ w'.cell? (ad264.add ((x10_4).toNat * 5)) = some (.int .i64 ((rd_T37 l1 x10_4).f0)) ∧ w'.cell? ⟨(ad264.add ((x10_4).toNat * 5)).block, (ad264.add ((x10_4).toNat * 5)).off + 1, none⟩ = some (.int .i64 ((rd_T37 l1 x10_4).f1)) ∧ w'.cell? ⟨(ad264.add ((x10_4).toNat * 5)).block, (ad264.add ((x10_4).toNat * 5)).off + 2, none⟩ = some (.int .i64 ((rd_T37 l1 x10_4).f2)) ∧ w'.cell? ⟨(ad264.add ((x10_4).toNat * 5)).block, (ad264.add ((x10_4).toNat * 5)).off + 3, none⟩ = some (.bool ((rd_T37 l1 x10_4).f3)) ∧ w'.cell? ⟨(ad264.add ((x10_4).toNat * 5)).block, (ad264.add ((x10_4).toNat * 5)).off + 4, none⟩ = some (.int .i64 ((rd_T37 l1 x10_4).f4)) ∧ w'.cell? (ad263.add (x10_4).toNat) = some (.int .i64 (rd l2 x10_4)) ∧ w'.cell? (ad264.add ((x11_5).toNat * 5)) = some (.int .i64 ((rd_T37 l1 x11_5).f0)) ∧ w'.cell? ⟨(ad264.add ((x11_5).toNat * 5)).block, (ad264.add ((x11_5).toNat * 5)).off + 1, none⟩ = some (.int .i64 ((rd_T37 l1 x11_5).f1)) ∧ w'.cell? ⟨(ad264.add ((x11_5).toNat * 5)).block, (ad264.add ((x11_5).toNat * 5)).off + 2, none⟩ = some (.int .i64 ((rd_T37 l1 x11_5).f2)) ∧ w'.cell? ⟨(ad264.add ((x11_5).toNat * 5)).block, (ad264.add ((x11_5).toNat * 5)).off + 3, none⟩ = some (.bool ((rd_T37 l1 x11_5).f3)) ∧ w'.cell? ⟨(ad264.add ((x11_5).toNat * 5)).block, (ad264.add ((x11_5).toNat * 5)).off + 4, none⟩ = some (.int .i64 ((rd_T37 l1 x11_5).f4))) (ds := []) #[false, false, false, false, false, false, false, false, false, false, false, false, false, false, false, false, false, false, false, false, false, false] (by kernel_rfl) rfl rfl ⟨(cB_ hw263_0), (cB_ hw264_0), (cB_ hw264_1), (cB_ hw264_2), (cB_ hw264_3), (cB_ hw264_4), (cB_ hw265_0), (cB_ hw266_0), (cB_ hw266_1), (cB_ hw266_2), (cB_ hw266_3), (cB_ hw266_4)⟩ (fun hHeld => ?_); refine with_tabW spec_Clash.tab22 spec_Clash.bits22 (fun HT_ HW_ => ?_)
 generalize wr.drew = w44 at BK253 HB hx263_0 hx264_0 hx264_1 hx264_2 hx264_3 hx264_4 hx265_0 hx266_0 hx266_1 hx266_2 hx266_3 hx266_4 hHeld ⊢
 refine pI_ 0 72 (bqz 22 1) ?_
 refine jI_ 1 73 ?_
 refine jI_ 2 74 ?_
 refine jI_ 4 76 ?_
 refine jI_ 5 77 ?_
 refine jI_ 6 78 ?_
 refine jI_ 7 79 ?_
 refine sI12_ 3 75 ?_
 refine sI12_ 8 80 ?_
 refine jI_ 9 81 ?_
 refine jI_ 10 82 ?_
 refine jI_ 11 83 ?_
 refine jI_ 12 84 ?_
 refine jI_ 13 85 ?_
 refine jI_ 15 87 ?_
 refine jI_ 16 88 ?_
 refine jI_ 17 89 ?_
 refine jI_ 18 90 ?_
 refine sI12_ 14 86 ?_
 refine sI12_ 19 91 ?_
 refine jI_ 20 92 ?_
 refine jI_ 21 93 ?_
 refine done_ (done_of HT_.out (by kernel_rfl)) ?_
 try go_wp2
 go_ret
 exact ⟨qzw, qz1⟩
 }
 {
 have H' := aM H
 clear H
 try go_wp2
 replace BK253 := aM (blk_drew BK253.out)
 replace HB := aM (below_drew1 HB.out)
 have p263 : (0 ≤ (x11_5 : Int)) = True := et_
 have q263 : (x11_5 < (l2.length : Int)) = True := et_
 obtain ⟨ad263, e263, hx263_0⟩ := Kd.at_int HR2.out x11_5 dt_ dt_
 have hw263_0 := hx263_0
 cases e263
 replace hx263_0 := cB_ hx263_0
 have p264 : (0 ≤ (x10_4 : Int)) = True := et_
 have q264 : (x10_4 < (l1.length : Int)) = True := et_
 obtain ⟨ad264, e264, hx264_0, hx264_1, hx264_2, hx264_3, hx264_4⟩ := at_T37 HR1.out x10_4 dt_ dt_
 have hw264_4 := hx264_4
 have hw264_3 := hx264_3
 have hw264_2 := hx264_2
 have hw264_1 := hx264_1
 have hw264_0 := hx264_0
 cases e264
 replace hx264_0 := cB_ hx264_0
 replace hx264_1 := cB_ hx264_1
 replace hx264_2 := cB_ hx264_2
 replace hx264_3 := cB_ hx264_3
 replace hx264_4 := cB_ hx264_4
 have p265 : (0 ≤ (x10_4 : Int)) = True := et_
 have q265 : (x10_4 < (l2.length : Int)) = True := et_
 obtain ⟨ad265, e265, hx265_0⟩ := Kd.at_int HR2.out x10_4 dt_ dt_
 have hw265_0 := hx265_0
 obtain rfl : ad263 = ad265 := (by injection e265)
 replace hx265_0 := cB_ hx265_0
 have p266 : (0 ≤ (x11_5 : Int)) = True := et_
 have q266 : (x11_5 < (l1.length : Int)) = True := et_
 obtain ⟨ad266, e266, hx266_0, hx266_1, hx266_2, hx266_3, hx266_4⟩ := at_T37 HR1.out x11_5 dt_ dt_
 have hw266_4 := hx266_4
 have hw266_3 := hx266_3
 have hw266_2 := hx266_2
 have hw266_1 := hx266_1
 have hw266_0 := hx266_0
 obtain rfl : ad264 = ad266 := (by injection e266)
 replace hx266_0 := cB_ hx266_0
 replace hx266_1 := cB_ hx266_1
 replace hx266_2 := cB_ hx266_2
 replace hx266_3 := cB_ hx266_3
 replace hx266_4 := cB_ hx266_4
 refine start_ (n := 22) (S := fun w' => w'.cell? (ad263.add (x11_5).toNat) = some (.int .i64 (rd l2 x11_5)) ∧ w'.cell? (ad264.add ((x10_4).toNat * 5)) = some (.int .i64 ((rd_T37 l1 x10_4).f0)) ∧ w'.cell? ⟨(ad264.add ((x10_4).toNat * 5)).block, (ad264.add ((x10_4).toNat * 5)).off + 1, none⟩ = some (.int .i64 ((rd_T37 l1 x10_4).f1)) ∧ w'.cell? ⟨(ad264.add ((x10_4).toNat * 5)).block, (ad264.add ((x10_4).toNat * 5)).off + 2, none⟩ = some (.int .i64 ((rd_T37 l1 x10_4).f2)) ∧ w'.cell? ⟨(ad264.add ((x10_4).toNat * 5)).block, (ad264.add ((x10_4).toNat * 5)).off + 3, none⟩ = some (.bool ((rd_T37 l1 x10_4).f3)) ∧ w'.cell? ⟨(ad264.add ((x10_4).toNat * 5)).block, (ad264.add ((x10_4).toNat * 5)).off + 4, none⟩ = some (.int .i64 ((rd_T37 l1 x10_4).f4)) ∧ w'.cell? (ad263.add (x10_4).toNat) = some (.int .i64 (rd l2 x10_4)) ∧ w'.cell? (ad264.add ((x11_5).toNat * 5)) = some (.int .i64 ((rd_T37 l1 x11_5).f0)) ∧ w'.cell? ⟨(ad264.add ((x11_5).toNat * 5)).block, (ad264.add ((x11_5).toNat * 5)).off + 1, none⟩ = some (.int .i64 ((rd_T37 l1 x11_5).f1)) ∧ w'.cell? ⟨(ad264.add ((x11_5).toNat * 5)).block, (ad264.add ((x11_5).toNat * 5)).off + 2, none⟩ = some (.int .i64 ((rd_T37 l1 x11_5).f2)) ∧ w'.cell? ⟨(ad264.add ((x11_5).toNat * 5)).block, (ad264.add ((x11_5).toNat * 5)).off + 3, none⟩ = some (.bool ((rd_T37 l1 x11_5).f3)) ∧ w'.cell? ⟨(ad264.add ((x11_5).toNat * 5)).block, (ad264.add ((x11_5).toNat * 5)).off + 4, none⟩ = some (.int .i64 ((rd_T37 l1 x11_5).f4))) (ds := []) #[false, false, false, false, false, false, false, false, false, false, false, false, false, false, false, false, false, false, false, false, false, false] (by kernel_rfl) rfl rfl ⟨(cB_ hw263_0), (cB_ hw264_0), (cB_ hw264_1), (cB_ hw264_2), (cB_ hw264_3), (cB_ hw264_4), (cB_ hw265_0), (cB_ hw266_0), (cB_ hw266_1), (cB_ hw266_2), (cB_ hw266_3), (cB_ hw266_4)⟩ (fun hHeld => ?_); refine with_tabW spec_Clash.tab22 spec_Clash.bits22 (fun HT_ HW_ => ?_)
 generalize wr.drew = w45 at BK253 HB hx263_0 hx264_0 hx264_1 hx264_2 hx264_3 hx264_4 hx265_0 hx266_0 hx266_1 hx266_2 hx266_3 hx266_4 hHeld ⊢
 refine pI_ 0 72 (bqz 22 1) ?_
 refine jI_ 1 73 ?_
 refine jI_ 2 74 ?_
 refine jI_ 4 76 ?_
 refine jI_ 5 77 ?_
 refine jI_ 6 78 ?_
 refine jI_ 7 79 ?_
 refine sI12_ 3 75 ?_
 refine sI12_ 8 80 ?_
 refine jI_ 9 81 ?_
 refine jI_ 10 82 ?_
 refine jI_ 11 83 ?_
 refine jI_ 12 84 ?_
 refine jI_ 13 85 ?_
 refine jI_ 15 87 ?_
 refine jI_ 16 88 ?_
 refine jI_ 17 89 ?_
 refine jI_ 18 90 ?_
 refine sI12_ 14 86 ?_
 refine sI12_ 19 91 ?_
 refine jI_ 20 92 ?_
 refine jI_ 21 93 ?_
 refine done_ (done_of HT_.out (by kernel_rfl)) ?_
 try go_wp2
 go_roundg k5
 case measure => have := HJ3.out; have := HK2.out; have := HK3.out; have := HK4.out; have := HK5.out; omega
 case rel => exact ⟨(wrap64 (x11_5 + 1)), qz5, H', ⟨by have := HJ3.out; have := HK2.out; have := HK3.out; have := HK4.out; have := HK5.out; omega⟩, ⟨bk_ BK253.out⟩, ⟨qz1⟩⟩
 }
 }
 {
 have H' := aM H
 clear H
 try go_wp2
 replace BK253 := aM (blk_drew BK253.out)
 replace HB := aM (below_drew1 HB.out)
 have p263 : (0 ≤ (x11_5 : Int)) = True := et_
 have q263 : (x11_5 < (l2.length : Int)) = True := et_
 obtain ⟨ad263, e263, hx263_0⟩ := Kd.at_int HR2.out x11_5 dt_ dt_
 have hw263_0 := hx263_0
 cases e263
 replace hx263_0 := cB_ hx263_0
 have p264 : (0 ≤ (x10_4 : Int)) = True := et_
 have q264 : (x10_4 < (l1.length : Int)) = True := et_
 obtain ⟨ad264, e264, hx264_0, hx264_1, hx264_2, hx264_3, hx264_4⟩ := at_T37 HR1.out x10_4 dt_ dt_
 have hw264_4 := hx264_4
 have hw264_3 := hx264_3
 have hw264_2 := hx264_2
 have hw264_1 := hx264_1
 have hw264_0 := hx264_0
 cases e264
 replace hx264_0 := cB_ hx264_0
 replace hx264_1 := cB_ hx264_1
 replace hx264_2 := cB_ hx264_2
 replace hx264_3 := cB_ hx264_3
 replace hx264_4 := cB_ hx264_4
 refine start_ (n := 22) (S := fun w' => w'.cell? (ad263.add (x11_5).toNat) = some (.int .i64 (rd l2 x11_5)) ∧ w'.cell? (ad264.add ((x10_4).toNat * 5)) = some (.int .i64 ((rd_T37 l1 x10_4).f0)) ∧ w'.cell? ⟨(ad264.add ((x10_4).toNat * 5)).block, (ad264.add ((x10_4).toNat * 5)).off + 1, none⟩ = some (.int .i64 ((rd_T37 l1 x10_4).f1)) ∧ w'.cell? ⟨(ad264.add ((x10_4).toNat * 5)).block, (ad264.add ((x10_4).toNat * 5)).off + 2, none⟩ = some (.int .i64 ((rd_T37 l1 x10_4).f2)) ∧ w'.cell? ⟨(ad264.add ((x10_4).toNat * 5)).block, (ad264.add ((x10_4).toNat * 5)).off + 3, none⟩ = some (.bool ((rd_T37 l1 x10_4).f3)) ∧ w'.cell? ⟨(ad264.add ((x10_4).toNat * 5)).block, (ad264.add ((x10_4).toNat * 5)).off + 4, none⟩ = some (.int .i64 ((rd_T37 l1 x10_4).f4))) (ds := []) #[false, false, false, false, false, false, false, false, false, false, false, false, false, false, false, false, false, false, false, false, false, false] (by kernel_rfl) rfl rfl ⟨(cB_ hw263_0), (cB_ hw264_0), (cB_ hw264_1), (cB_ hw264_2), (cB_ hw264_3), (cB_ hw264_4)⟩ (fun hHeld => ?_); refine with_tabW spec_Clash.tab22 spec_Clash.bits22 (fun HT_ HW_ => ?_)
 generalize wr.drew = w46 at BK253 HB hx263_0 hx264_0 hx264_1 hx264_2 hx264_3 hx264_4 hHeld ⊢
 refine pI_ 0 72 (bqz 22 1) ?_
 refine jI_ 1 73 ?_
 refine jI_ 2 74 ?_
 refine jI_ 4 76 ?_
 refine jI_ 5 77 ?_
 refine jI_ 6 78 ?_
 refine jI_ 7 79 ?_
 refine sI6_ 3 75 ?_
 refine sI6_ 8 80 ?_
 refine jI_ 9 81 ?_
 refine jI_ 10 82 ?_
 refine jU_ 11 83 ?_
 refine jU_ 12 84 ?_
 refine jU_ 13 85 ?_
 refine jU_ 14 86 ?_
 refine jU_ 15 87 ?_
 refine jU_ 16 88 ?_
 refine jU_ 17 89 ?_
 refine jU_ 18 90 ?_
 refine jU_ 19 91 ?_
 refine jU_ 20 92 ?_
 refine jI_ 21 93 ?_
 refine done_ (done_of HT_.out (by kernel_rfl)) ?_
 try go_wp2
 go_roundg k5
 case measure => have := HJ3.out; have := HK2.out; have := HK3.out; have := HK4.out; have := HK5.out; omega
 case rel => exact ⟨(wrap64 (x11_5 + 1)), qz5, H', ⟨by have := HJ3.out; have := HK2.out; have := HK3.out; have := HK4.out; have := HK5.out; omega⟩, ⟨bk_ BK253.out⟩, ⟨qz1⟩⟩
 }
 }
 {
 have H' := aM H
 clear H
 go_wp2
 go_roundg k5
 case measure => have := HJ3.out; have := HK2.out; have := HK3.out; have := HK4.out; have := HK5.out; omega
 case rel => exact ⟨(wrap64 (x10_4 + 1)), qz5, H', ⟨by have := HJ3.out; have := HK2.out; have := HK3.out; have := HK4.out; have := HK5.out; omega⟩, ⟨bk_ BK253.out⟩, ⟨qz1⟩⟩
 }
 }
 {
 obtain rfl := Option.some.inj H
 go_wp2
 go_ret
 exact ⟨qzw, qz1⟩
 }
 }
 }
 }
end Go.Proofs.Ytankmdbbgepmbaa.PFnStep
