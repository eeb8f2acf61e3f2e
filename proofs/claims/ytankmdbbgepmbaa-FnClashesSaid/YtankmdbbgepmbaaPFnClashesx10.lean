-- Made by a program of this session out of the translation. Lean checks it.
import Derived.Test.YtankmdbbgepmbaaPFnClashesx7
namespace Go.Proofs.Ytankmdbbgepmbaa.PFnClashes
open Go.RowKit Go.Proofs.YtankmdbbgepmbaaW.PrintWords Go.Proofs.YtankmdbbgepmbaaW.PrintLast Go.Proofs.YtankmdbbgepmbaaW.PrintMore
set_option linter.unusedVariables false
set_option linter.unusedSimpArgs false
set_option maxHeartbeats 16000000
set_option maxRecDepth 100000

/-! ### spec_Clash: function 37 -/
mutual
def spec_Clash.j0 : Nat → List (S37) → List Int → Bool → Int → Int → List Int → Option (Int)
 | 0, _, _, _, _, _, _ => none
 | k + 1, x1, x2, x22, x254000, x254001, x254002 => if x22 = true then (some 1) else (spec_Clash.l0 k x1 x2 0 x254000 x254001 x254002)
def spec_Clash.l0 : Nat → List (S37) → List Int → Int → Int → Int → List Int → Option (Int)
 | 0, _, _, _, _, _, _ => none
 | k + 1, x1, x2, x7, x254000, x254001, x254002 => if x7 < (x2.length : Int) then (if 0 ≤ x7 then (if x7 < (x1.length : Int) then ((spec_Choices.f k x254000 x254001 x254002 ((rd_T37 x1 x7).f0) ((rd_T37 x1 x7).f1) ((rd_T37 x1 x7).f2) ((rd_T37 x1 x7).f3) ((rd_T37 x1 x7).f4)).bind fun t256 => ((spec_l6Among.f k t256 (rd x2 x7)).bind fun t260 => (if t260 = true then (spec_Clash.l0 k x1 x2 (wrap64 (x7 + 1)) x254000 x254001 x254002) else (some 4)))) else (none)) else (none)) else (spec_Clash.l1 k x1 x2 0)
def spec_Clash.l1 : Nat → List (S37) → List Int → Int → Option (Int)
 | 0, _, _, _ => none
 | k + 1, x1, x2, x8 => if x8 < (x2.length : Int) then (spec_Clash.l2 k x1 x2 x8 0) else (spec_Clash.l3 k x1 x2 0)
def spec_Clash.l2 : Nat → List (S37) → List Int → Int → Int → Option (Int)
 | 0, _, _, _, _ => none
 | k + 1, x1, x2, x8, x9 => if x9 < x8 then (if 0 ≤ x9 then (if x9 < (x2.length : Int) then (if 0 ≤ x8 then (if x8 < (x2.length : Int) then (if (rd x2 x9) = (rd x2 x8) then (some 2) else (spec_Clash.l2 k x1 x2 x8 (wrap64 (x9 + 1)))) else (none)) else (none)) else (none)) else (none)) else (spec_Clash.l1 k x1 x2 (wrap64 (x8 + 1)))
def spec_Clash.l3 : Nat → List (S37) → List Int → Int → Option (Int)
 | 0, _, _, _ => none
 | k + 1, x1, x2, x10 => if x10 < (x2.length : Int) then (spec_Clash.l4 k x1 x2 x10 0) else (some 0)
def spec_Clash.l4 : Nat → List (S37) → List Int → Int → Int → Option (Int)
 | 0, _, _, _, _ => none
 | k + 1, x1, x2, x10, x11 => if x11 < x10 then (if 0 ≤ x11 then (if x11 < (x2.length : Int) then (if 0 ≤ x10 then (if x10 < (x1.length : Int) then (if (rd x2 x11) = ((rd_T37 x1 x10).f1) then (if x10 < (x2.length : Int) then (if x11 < (x1.length : Int) then (if (rd x2 x10) = ((rd_T37 x1 x11).f1) then (some 3) else (spec_Clash.l4 k x1 x2 x10 (wrap64 (x11 + 1)))) else (none)) else (none)) else (spec_Clash.l4 k x1 x2 x10 (wrap64 (x11 + 1)))) else (none)) else (none)) else (none)) else (none)) else (spec_Clash.l3 k x1 x2 (wrap64 (x10 + 1)))
end
def spec_Clash.f (k : Nat) (a0_0 : Int) (a0_1 : Int) (l0_2 : List Int) (l1 : List (S37)) (l2 : List Int) : Option (Int) := (spec_CrewOk.f k a0_0 a0_1 l0_2 l1).bind fun t254 => (if t254 = true then (spec_Clash.j0 k l1 l2 ((l2.length : Int) != (l1.length : Int)) a0_0 a0_1 l0_2) else (spec_Clash.j0 k l1 l2 true a0_0 a0_1 l0_2))
theorem spec_Clash.mono_l : ∀ k, (∀ y0 y1 y2 y3 y4 y5, LeO (spec_Clash.j0 k y0 y1 y2 y3 y4 y5) (spec_Clash.j0 (k + 1) y0 y1 y2 y3 y4 y5)) ∧ (∀ y0 y1 y2 y3 y4 y5, LeO (spec_Clash.l0 k y0 y1 y2 y3 y4 y5) (spec_Clash.l0 (k + 1) y0 y1 y2 y3 y4 y5)) ∧ (∀ y0 y1 y2, LeO (spec_Clash.l1 k y0 y1 y2) (spec_Clash.l1 (k + 1) y0 y1 y2)) ∧ (∀ y0 y1 y2 y3, LeO (spec_Clash.l2 k y0 y1 y2 y3) (spec_Clash.l2 (k + 1) y0 y1 y2 y3)) ∧ (∀ y0 y1 y2, LeO (spec_Clash.l3 k y0 y1 y2) (spec_Clash.l3 (k + 1) y0 y1 y2)) ∧ (∀ y0 y1 y2 y3, LeO (spec_Clash.l4 k y0 y1 y2 y3) (spec_Clash.l4 (k + 1) y0 y1 y2 y3))
 | 0 => ⟨fun _ _ _ _ _ _ r h => by simp [spec_Clash.j0] at h, fun _ _ _ _ _ _ r h => by simp [spec_Clash.l0] at h, fun _ _ _ r h => by simp [spec_Clash.l1] at h, fun _ _ _ _ r h => by simp [spec_Clash.l2] at h, fun _ _ _ r h => by simp [spec_Clash.l3] at h, fun _ _ _ _ r h => by simp [spec_Clash.l4] at h⟩
 | k + 1 => by
  obtain ⟨ih0, ih1, ih2, ih3, ih4, ih5⟩ := spec_Clash.mono_l k
  refine ⟨?_, ?_, ?_, ?_, ?_, ?_⟩
  {
  intro y0 y1 y2 y3 y4 y5
  unfold spec_Clash.j0
  have j0 := @spec_Choices.mono
  have j1 := @spec_CrewOk.mono
  have j2 := @spec_l6Among.mono
  exact qL
  }
  {
  intro y0 y1 y2 y3 y4 y5
  unfold spec_Clash.l0
  have j0 := @spec_Choices.mono
  have j1 := @spec_CrewOk.mono
  have j2 := @spec_l6Among.mono
  exact qL
  }
  {
  intro y0 y1 y2
  unfold spec_Clash.l1
  have j0 := @spec_Choices.mono
  have j1 := @spec_CrewOk.mono
  have j2 := @spec_l6Among.mono
  exact qL
  }
  {
  intro y0 y1 y2 y3
  unfold spec_Clash.l2
  have j0 := @spec_Choices.mono
  have j1 := @spec_CrewOk.mono
  have j2 := @spec_l6Among.mono
  exact qL
  }
  {
  intro y0 y1 y2
  unfold spec_Clash.l3
  have j0 := @spec_Choices.mono
  have j1 := @spec_CrewOk.mono
  have j2 := @spec_l6Among.mono
  exact qL
  }
  {
  intro y0 y1 y2 y3
  unfold spec_Clash.l4
  have j0 := @spec_Choices.mono
  have j1 := @spec_CrewOk.mono
  have j2 := @spec_l6Among.mono
  exact qL
  }
theorem spec_Clash.mono : ∀ a0 a1 a2 a3 a4 k, LeO (spec_Clash.f k a0 a1 a2 a3 a4) (spec_Clash.f (k + 1) a0 a1 a2 a3 a4) := by
 intro a0 a1 a2 a3 a4 k
 obtain ⟨ih0, ih1, ih2, ih3, ih4, ih5⟩ := spec_Clash.mono_l k
 unfold spec_Clash.f
 have j0 := @spec_Choices.mono
 have j1 := @spec_CrewOk.mono
 have j2 := @spec_l6Among.mono
 exact qL
def spec_Clash.T6 : Bool × List (List Nat × List Nat) := (true, [([], []), ([], []), ([], []), ([1, 2], [1, 2]), ([3], [3]), ([0, 4], [0, 4]), ([], []), ([], []), ([6, 7], [6, 7]), ([8], [8]), ([5, 9, 5], [5, 9]), ([10], [10])])
def spec_Clash.B6 : List Nat := [0, 0, 0, 6, 14, 31, 0, 0, 192, 448, 1023, 2047]
theorem spec_Clash.tab6 : rtab .any (opsOf Try.f37 6) = spec_Clash.T6 := by kernel_rfl
theorem spec_Clash.bits6 : waitsOk spec_Clash.T6.2 spec_Clash.B6 = true := by kernel_rfl
def spec_Clash.T14 : Bool × List (List Nat × List Nat) := (true, [([], []), ([], []), ([0, 1], [0, 1]), ([2], [2]), ([], []), ([], []), ([4, 5], [4, 5]), ([6], [6]), ([3, 7], [3, 7])])
def spec_Clash.B14 : List Nat := [0, 0, 3, 7, 0, 0, 48, 112, 255]
theorem spec_Clash.tab14 : rtab .any (opsOf Try.f37 14) = spec_Clash.T14 := by kernel_rfl
theorem spec_Clash.bits14 : waitsOk spec_Clash.T14.2 spec_Clash.B14 = true := by kernel_rfl
def spec_Clash.T22 : Bool × List (List Nat × List Nat) := (true, [([], []), ([], []), ([0, 1], [0, 1]), ([2], [2]), ([], []), ([], []), ([4, 5], [4, 5]), ([6], [6]), ([7], [7]), ([3, 8], [3, 8]), ([9], [9]), ([10], [10]), ([10], [10]), ([11, 12, 10], [10, 11, 12]), ([13, 10], [10, 13]), ([10], [10]), ([10], [10]), ([15, 16, 10], [10, 15, 16]), ([17, 10], [10, 17]), ([18, 10], [10, 18]), ([14, 19, 10], [10, 14, 19]), ([10, 20], [10, 20])])
def spec_Clash.B22 : List Nat := [0, 0, 3, 7, 0, 0, 48, 112, 240, 511, 1023, 2047, 2047, 8191, 16383, 2047, 2047, 100351, 231423, 493567, 1048575, 2097151]
theorem spec_Clash.tab22 : rtab .any (opsOf Try.f37 22) = spec_Clash.T22 := by kernel_rfl
theorem spec_Clash.bits22 : waitsOk spec_Clash.T22.2 spec_Clash.B22 = true := by kernel_rfl
theorem spec_Clash.calls (k : Nat) (a0_0 : Int) (a0_1 : Int) (A0_2 : Option Addr) (c0_2 : Nat) (l0_2 : List Int) (A1 : Option Addr) (c1 : Nat) (l1 : List (S37)) (A2 : Option Addr) (c2 : Nat) (l2 : List Int) (r : Int) (w : World) (hr0_2 : Kd.C (Kd.int .i64) w A0_2 l0_2.length l0_2) (hc0_2 : l0_2.length ≤ c0_2) (hr1 : Kd.C k37 w A1 l1.length l1) (hc1 : l1.length ≤ c1) (hr2 : Kd.C (Kd.int .i64) w A2 l2.length l2) (hc2 : l2.length ≤ c2) (h : spec_Clash.f k a0_0 a0_1 l0_2 l1 l2 = some r) :
  Calls Try.prog 37 #[.agg #[.int .i64 a0_0, .int .i64 a0_1, .slice A0_2 l0_2.length c0_2], .slice A1 l1.length c1, .slice A2 l2.length c2] w fun e w' => e = .returned (.int .i64 r) ∧ Below w.heap.size w w' := by
 have hu43 := Try.underlying43
 have hu37 := Try.underlying37
 have HR0_2 := aM hr0_2
 have HC0_2 := aM hc0_2
 clear hr0_2 hc0_2
 have HR1 := aM hr1
 have HC1 := aM hc1
 clear hr1 hc1
 have HR2 := aM hr2
 have HC2 := aM hc2
 clear hr2 hc2
 have HB := aM (Below.refl w.heap.size w)
 unfold spec_Clash.f at h
 have H := h
 clear h
 have HC4 := aM H
 clear H
 go_enter Try.func37, Try.ntmps37
 go_upto_region 1 with (first | ((with_reducible refine gate_dst (N := 3) rfl ?_); (try (refine gate_guard (by rfl) ?_; dsimp only)); refine bx_ 3 #[.int .i64 a0_0, .int .i64 a0_1, .slice A0_2 l0_2.length c0_2] 43 ?_; intro gb253 hg w5 hbox hb; have BK253 := aM (hbox); have GW253 := aM (bz_ w hg qz1); have GE253 := GW253; replace HB := bS_ hb; clear hb hbox hg))
 (try simp only [Act.put, List.setIfInBounds_toArray, List.set_cons_zero, List.set_cons_succ])
 go_cut [22] (fun v22 wc => ∃ (kq : Nat) (x22_3 : Bool), v22 = .bool x22_3 ∧ Aside0 (spec_Clash.j0 kq l1 l2 x22_3 a0_0 a0_1 l0_2 = some r) ∧ Aside0 (kq ≤ k) ∧ Aside0 (wc.heap[gb253]? = some (.cells #[.int .i64 a0_0, .int .i64 a0_1, (.slice A0_2 l0_2.length c0_2)] 43 (0, 0))) ∧ Aside0 (Below w.heap.size w wc))
 case first =>
  have H := HC4.out
  clear HC4
  replace H := Option.bind_eq_some_iff.mp H
  obtain ⟨t254, A60, H⟩ := H
  have A6 := aM A60
  clear A60
  replace H := iB_ H
  rcases H with ⟨rfl, H⟩ | ⟨rfl, H⟩
  {
  have H' := aM H
  clear H
  obtain ⟨hcz8_0, hcz8_1, hcz8_2, hfz8_0, hfz8_1, hfz8_2⟩ := b6_ BK253.out
  go_wp2_with (first | ((with_reducible refine gate_callee (f := 76) rfl ?_); refine goesL_ (some 14) rfl rfl Try.func76 (by kernel_rfl) rfl #[.agg #[.int .i64 a0_0, .int .i64 a0_1, .slice A0_2 l0_2.length c0_2], .slice A1 l1.length c1] rfl qz2 ?_; (with_reducible refine (spec_CrewOk.calls k a0_0 a0_1 _ _ l0_2 _ _ l1 true _ ?_ ?_ ?_ ?_ A6.out).mono ?_); exact qz6; exact qz28; exact qz10; exact HC1.out; rintro e w9 ⟨rfl, hb⟩; refine ⟨_, rfl, ?_⟩; replace BK253 := bB_ BK253 hb; replace HB := bS_ hb; (try clear hb)))
  go_meet
  case rel => exact ⟨_, (((l2.length : Int) != (l1.length : Int))), qz7, H', ⟨by first | omega | exact Nat.le_refl _⟩, ⟨bk_ BK253.out⟩, ⟨qz1⟩⟩
  }
  {
  have H' := aM H
  clear H
  obtain ⟨hcz10_0, hcz10_1, hcz10_2, hfz10_0, hfz10_1, hfz10_2⟩ := b6_ BK253.out
  go_wp2_with (first | ((with_reducible refine gate_callee (f := 76) rfl ?_); refine goesL_ (some 14) rfl rfl Try.func76 (by kernel_rfl) rfl #[.agg #[.int .i64 a0_0, .int .i64 a0_1, .slice A0_2 l0_2.length c0_2], .slice A1 l1.length c1] rfl qz2 ?_; (with_reducible refine (spec_CrewOk.calls k a0_0 a0_1 _ _ l0_2 _ _ l1 false _ ?_ ?_ ?_ ?_ A6.out).mono ?_); exact qz6; exact qz28; exact qz10; exact HC1.out; rintro e w11 ⟨rfl, hb⟩; refine ⟨_, rfl, ?_⟩; replace BK253 := bB_ BK253 hb; replace HB := bS_ hb; (try clear hb)))
  go_meet
  case rel => exact ⟨_, (true), qz7, H', ⟨by first | omega | exact Nat.le_refl _⟩, ⟨bk_ BK253.out⟩, ⟨qz1⟩⟩
  }
 case rest =>
 clear HC4
 try clear c1
 try clear c2
 obtain ⟨kq, x22_3, rfl, HA, HJ3, BK253, HB⟩ := hcut
 cases kq with
 | zero => exact absurd HA.out (by simp [spec_Clash.j0])
 | succ kj3 =>
 have H := HA.out
 clear HA
 simp only [spec_Clash.j0] at H
 replace H := iB_ H
 rcases H with ⟨rfl, H⟩ | ⟨rfl, H⟩
 {
 obtain rfl := Option.some.inj H
 go_wp2
 go_ret
 exact ⟨qzw, qz1⟩
 }
 {
 have H' := aM H
 clear H
 go_wp2
 go_loopg [7] kj3 (fun kq v7 w' => ∃ (x7_2 : Int), v7 = .int .i64 x7_2 ∧ Aside0 (spec_Clash.l0 kq l1 l2 x7_2 a0_0 a0_1 l0_2 = some r) ∧ Aside0 (kq ≤ kj3) ∧ Aside0 (w'.heap[gb253]? = some (.cells #[.int .i64 a0_0, .int .i64 a0_1, (.slice A0_2 l0_2.length c0_2)] 43 (0, 0))) ∧ Aside0 (Below w.heap.size w w'))
 case atStart => exact ⟨(0), qz7, H', ⟨Nat.le_refl _⟩, ⟨bk_ BK253.out⟩, ⟨qz1⟩⟩
 case round =>
 clear H'
 try clear c1
 try clear c2
 try clear c12
 obtain ⟨x7_2, rfl, HA, HK2, BK253, HB⟩ := hrel
 cases gk with
 | zero => exact absurd HA.out (by simp [spec_Clash.l0])
 | succ k2 =>
 have H := HA.out
 clear HA
 simp only [spec_Clash.l0] at H
 replace H := iE_ H
 rcases H with ⟨c13b0, H⟩ | ⟨c13b0, H⟩
 {
 replace H := iD_ H
 obtain ⟨c14b0, H⟩ := H
 replace H := iD_ H
 obtain ⟨c15b0, H⟩ := H
 replace H := Option.bind_eq_some_iff.mp H
 obtain ⟨t256, A160, H⟩ := H
 have A16 := aM A160
 clear A160
 replace H := Option.bind_eq_some_iff.mp H
 obtain ⟨t260, A170, H⟩ := H
 have A17 := aM A170
 clear A170
 replace H := iB_ H
 rcases H with ⟨rfl, H⟩ | ⟨rfl, H⟩
 {
 have H' := aM H
 clear H
 try go_wp2
 replace BK253 := aM (blk_drew BK253.out)
 replace HB := aM (below_drew1 HB.out)
 have p255 : (0 ≤ (x7_2 : Int)) = True := et_
 have q255 : (x7_2 < (l1.length : Int)) = True := et_
 obtain ⟨ad255, e255, hx255_0, hx255_1, hx255_2, hx255_3, hx255_4⟩ := at_T37 HR1.out x7_2 dt_ dt_
 have hw255_4 := hx255_4
 have hw255_3 := hx255_3
 have hw255_2 := hx255_2
 have hw255_1 := hx255_1
 have hw255_0 := hx255_0
 cases e255
 replace hx255_0 := cB_ hx255_0
 replace hx255_1 := cB_ hx255_1
 replace hx255_2 := cB_ hx255_2
 replace hx255_3 := cB_ hx255_3
 replace hx255_4 := cB_ hx255_4
 have p259 : (0 ≤ (x7_2 : Int)) = True := et_
 have q259 : (x7_2 < (l2.length : Int)) = True := et_
 obtain ⟨ad259, e259, hx259_0⟩ := Kd.at_int HR2.out x7_2 dt_ dt_
 have hw259_0 := hx259_0
 cases e259
 replace hx259_0 := cB_ hx259_0
 refine start_ (n := 12) (S := fun w' => w'.cell? ⟨gb253, 0, none⟩ = some (.int .i64 a0_0) ∧ w'.cell? ⟨gb253, 1, none⟩ = some (.int .i64 a0_1) ∧ w'.cell? ⟨gb253, 2, none⟩ = some (.slice A0_2 l0_2.length c0_2) ∧ w'.cell? (ad255.add ((x7_2).toNat * 5)) = some (.int .i64 ((rd_T37 l1 x7_2).f0)) ∧ w'.cell? ⟨(ad255.add ((x7_2).toNat * 5)).block, (ad255.add ((x7_2).toNat * 5)).off + 1, none⟩ = some (.int .i64 ((rd_T37 l1 x7_2).f1)) ∧ w'.cell? ⟨(ad255.add ((x7_2).toNat * 5)).block, (ad255.add ((x7_2).toNat * 5)).off + 2, none⟩ = some (.int .i64 ((rd_T37 l1 x7_2).f2)) ∧ w'.cell? ⟨(ad255.add ((x7_2).toNat * 5)).block, (ad255.add ((x7_2).toNat * 5)).off + 3, none⟩ = some (.bool ((rd_T37 l1 x7_2).f3)) ∧ w'.cell? ⟨(ad255.add ((x7_2).toNat * 5)).block, (ad255.add ((x7_2).toNat * 5)).off + 4, none⟩ = some (.int .i64 ((rd_T37 l1 x7_2).f4)) ∧ w'.cell? (ad259.add (x7_2).toNat) = some (.int .i64 (rd l2 x7_2))) (ds := []) #[false, false, false, false, false, false, false, false, false, false, false, false] (by kernel_rfl) rfl rfl ⟨(blk_cell BK253.out 0).trans rfl, (blk_cell BK253.out 1).trans rfl, (blk_cell BK253.out 2).trans rfl, (cB_ hw255_0), (cB_ hw255_1), (cB_ hw255_2), (cB_ hw255_3), (cB_ hw255_4), (cB_ hw259_0)⟩ (fun hHeld => ?_); refine with_tabW spec_Clash.tab6 spec_Clash.bits6 (fun HT_ HW_ => ?_)
 generalize wr.drew = w19 at BK253 HB hx255_0 hx255_1 hx255_2 hx255_3 hx255_4 hx259_0 hHeld ⊢
 refine pI_ 1 (bqz 12 2) ?_
 refine jI_ 2 ?_
 refine jI_ 3 ?_
 refine jI_ 6 ?_
 refine jI_ 7 ?_
 refine jI_ 8 ?_
 refine sI9_ 0 ?_
 refine sI9_ 4 ?_
 refine sI9_ 9 ?_
 refine oI_ 5 34 (bqz 12 1023) (fun K hK => ?_)
 refine goes_ Try.func26 (by kernel_rfl) rfl #[.agg #[.int .i64 a0_0, .int .i64 a0_1, .slice A0_2 l0_2.length c0_2], .agg #[.int .i64 ((rd_T37 l1 x7_2).f0), .int .i64 ((rd_T37 l1 x7_2).f1), .int .i64 ((rd_T37 l1 x7_2).f2), .bool ((rd_T37 l1 x7_2).f3), .int .i64 ((rd_T37 l1 x7_2).f4)]] (by rfl) rfl rfl qz2 ?_
 with_reducible refine (spec_Choices.calls k2 a0_0 a0_1 _ _ l0_2 ((rd_T37 l1 x7_2).f0) ((rd_T37 l1 x7_2).f1) ((rd_T37 l1 x7_2).f2) ((rd_T37 l1 x7_2).f3) ((rd_T37 l1 x7_2).f4) t256 _ ?side1 ?side2 A16.out).mono ?_
 (case side1 => exact qz6)
 (case side2 => exact qz28)
 rintro e w20 ⟨v257, rfl, ho0, hb⟩
 refine ⟨_, rfl, ?_⟩
 have HO258 := aM (Kd.R_lower ho0 (below_size qz1))
 replace BK253 := bB_ BK253 hb
 replace HB := bS_ hb
 (try clear hb)
 (try clear hb2)
 (try clear hk)
 (try clear hi)
 (try clear ho0)
 obtain ⟨Ao21, co21, eo21⟩ := Kd.R_slice HO258.out
 (first | subst eo21 | (injection eo21 with f1_ f2_ f3_; have f4_ := f1_.symm; have f5_ := f3_.symm; clear f1_ f2_ f3_; subst f4_; subst f5_))
 refine hK.out _ _ (b3A_ BK253 ⟨(cB_ hw255_0), (cB_ hw255_1), (cB_ hw255_2), (cB_ hw255_3), (cB_ hw255_4), (cB_ hw259_0)⟩) (fun hHeld => ?_)
 clear hK K
 refine nm_ 34 ?_
 refine oI_ 10 39 (bqz 12 2047) (fun K hK => ?_)
 refine goes_ Try.func77 (by kernel_rfl) rfl #[.slice Ao21 t256.length co21, .int .i64 (rd l2 x7_2)] (by rfl) rfl rfl qz2 ?_
 with_reducible refine (spec_l6Among.calls k2 _ _ t256 (rd l2 x7_2) true _ ?side1 ?side2 A17.out).mono ?_
 (case side1 => repeat (first | exact (Kd.R_reads' HO258.out).2.2 | (with_reducible refine Kd.C_alloc ?_ _) | (with_reducible refine Kd.C_drewN ?_ _) | (with_reducible refine Kd.C_drew ?_)))
 (case side2 => exact (Kd.R_reads' HO258.out).2.1)
 rintro e w' ⟨rfl, ⟨nd, rfl⟩⟩
 refine ⟨_, rfl, ?_⟩
 refine hK.out _ _ (b3A_ BK253 ⟨(cB_ hw255_0), (cB_ hw255_1), (cB_ hw255_2), (cB_ hw255_3), (cB_ hw255_4), (cB_ hw259_0)⟩) (fun hHeld => ?_)
 clear hK K
 refine nm_ 39 ?_
 refine pI_ 11 (bqz 12 4095) ?_
 refine dN_ ?_
 try go_wp2
 go_roundg k2
 case measure => have := HJ3.out; have := HK2.out; omega
 case rel => exact ⟨(wrap64 (x7_2 + 1)), qz7, H', ⟨by have := HJ3.out; have := HK2.out; omega⟩, ⟨bk_ BK253.out⟩, ⟨qz1⟩⟩
 }
 {
 obtain rfl := Option.some.inj H
 try go_wp2
 replace BK253 := aM (blk_drew BK253.out)
 replace HB := aM (below_drew1 HB.out)
 have p255 : (0 ≤ (x7_2 : Int)) = True := et_
 have q255 : (x7_2 < (l1.length : Int)) = True := et_
 obtain ⟨ad255, e255, hx255_0, hx255_1, hx255_2, hx255_3, hx255_4⟩ := at_T37 HR1.out x7_2 dt_ dt_
 have hw255_4 := hx255_4
 have hw255_3 := hx255_3
 have hw255_2 := hx255_2
 have hw255_1 := hx255_1
 have hw255_0 := hx255_0
 cases e255
 replace hx255_0 := cB_ hx255_0
 replace hx255_1 := cB_ hx255_1
 replace hx255_2 := cB_ hx255_2
 replace hx255_3 := cB_ hx255_3
 replace hx255_4 := cB_ hx255_4
 have p259 : (0 ≤ (x7_2 : Int)) = True := et_
 have q259 : (x7_2 < (l2.length : Int)) = True := et_
 obtain ⟨ad259, e259, hx259_0⟩ := Kd.at_int HR2.out x7_2 dt_ dt_
 have hw259_0 := hx259_0
 cases e259
 replace hx259_0 := cB_ hx259_0
 refine start_ (n := 12) (S := fun w' => w'.cell? ⟨gb253, 0, none⟩ = some (.int .i64 a0_0) ∧ w'.cell? ⟨gb253, 1, none⟩ = some (.int .i64 a0_1) ∧ w'.cell? ⟨gb253, 2, none⟩ = some (.slice A0_2 l0_2.length c0_2) ∧ w'.cell? (ad255.add ((x7_2).toNat * 5)) = some (.int .i64 ((rd_T37 l1 x7_2).f0)) ∧ w'.cell? ⟨(ad255.add ((x7_2).toNat * 5)).block, (ad255.add ((x7_2).toNat * 5)).off + 1, none⟩ = some (.int .i64 ((rd_T37 l1 x7_2).f1)) ∧ w'.cell? ⟨(ad255.add ((x7_2).toNat * 5)).block, (ad255.add ((x7_2).toNat * 5)).off + 2, none⟩ = some (.int .i64 ((rd_T37 l1 x7_2).f2)) ∧ w'.cell? ⟨(ad255.add ((x7_2).toNat * 5)).block, (ad255.add ((x7_2).toNat * 5)).off + 3, none⟩ = some (.bool ((rd_T37 l1 x7_2).f3)) ∧ w'.cell? ⟨(ad255.add ((x7_2).toNat * 5)).block, (ad255.add ((x7_2).toNat * 5)).off + 4, none⟩ = some (.int .i64 ((rd_T37 l1 x7_2).f4)) ∧ w'.cell? (ad259.add (x7_2).toNat) = some (.int .i64 (rd l2 x7_2))) (ds := []) #[false, false, false, false, false, false, false, false, false, false, false, false] (by kernel_rfl) rfl rfl ⟨(blk_cell BK253.out 0).trans rfl, (blk_cell BK253.out 1).trans rfl, (blk_cell BK253.out 2).trans rfl, (cB_ hw255_0), (cB_ hw255_1), (cB_ hw255_2), (cB_ hw255_3), (cB_ hw255_4), (cB_ hw259_0)⟩ (fun hHeld => ?_); refine with_tabW spec_Clash.tab6 spec_Clash.bits6 (fun HT_ HW_ => ?_)
 generalize wr.drew = w22 at BK253 HB hx255_0 hx255_1 hx255_2 hx255_3 hx255_4 hx259_0 hHeld ⊢
 refine pI_ 1 (bqz 12 2) ?_
 refine jI_ 2 ?_
 refine jI_ 3 ?_
 refine jI_ 6 ?_
 refine jI_ 7 ?_
 refine jI_ 8 ?_
 refine sI9_ 0 ?_
 refine sI9_ 4 ?_
 refine sI9_ 9 ?_
 refine oI_ 5 34 (bqz 12 1023) (fun K hK => ?_)
 refine goes_ Try.func26 (by kernel_rfl) rfl #[.agg #[.int .i64 a0_0, .int .i64 a0_1, .slice A0_2 l0_2.length c0_2], .agg #[.int .i64 ((rd_T37 l1 x7_2).f0), .int .i64 ((rd_T37 l1 x7_2).f1), .int .i64 ((rd_T37 l1 x7_2).f2), .bool ((rd_T37 l1 x7_2).f3), .int .i64 ((rd_T37 l1 x7_2).f4)]] (by rfl) rfl rfl qz2 ?_
 with_reducible refine (spec_Choices.calls k2 a0_0 a0_1 _ _ l0_2 ((rd_T37 l1 x7_2).f0) ((rd_T37 l1 x7_2).f1) ((rd_T37 l1 x7_2).f2) ((rd_T37 l1 x7_2).f3) ((rd_T37 l1 x7_2).f4) t256 _ ?side1 ?side2 A16.out).mono ?_
 (case side1 => exact qz6)
 (case side2 => exact qz28)
 rintro e w23 ⟨v257, rfl, ho0, hb⟩
 refine ⟨_, rfl, ?_⟩
 have HO258 := aM (Kd.R_lower ho0 (below_size qz1))
 replace BK253 := bB_ BK253 hb
 replace HB := bS_ hb
 (try clear hb)
 (try clear hb2)
 (try clear hk)
 (try clear hi)
 (try clear ho0)
 obtain ⟨Ao24, co24, eo24⟩ := Kd.R_slice HO258.out
 (first | subst eo24 | (injection eo24 with f1_ f2_ f3_; have f4_ := f1_.symm; have f5_ := f3_.symm; clear f1_ f2_ f3_; subst f4_; subst f5_))
 refine hK.out _ _ (b3A_ BK253 ⟨(cB_ hw255_0), (cB_ hw255_1), (cB_ hw255_2), (cB_ hw255_3), (cB_ hw255_4), (cB_ hw259_0)⟩) (fun hHeld => ?_)
 clear hK K
 refine nm_ 34 ?_
 refine oI_ 10 39 (bqz 12 2047) (fun K hK => ?_)
 refine goes_ Try.func77 (by kernel_rfl) rfl #[.slice Ao24 t256.length co24, .int .i64 (rd l2 x7_2)] (by rfl) rfl rfl qz2 ?_
 with_reducible refine (spec_l6Among.calls k2 _ _ t256 (rd l2 x7_2) false _ ?side1 ?side2 A17.out).mono ?_
 (case side1 => repeat (first | exact (Kd.R_reads' HO258.out).2.2 | (with_reducible refine Kd.C_alloc ?_ _) | (with_reducible refine Kd.C_drewN ?_ _) | (with_reducible refine Kd.C_drew ?_)))
 (case side2 => exact (Kd.R_reads' HO258.out).2.1)
 rintro e w' ⟨rfl, ⟨nd, rfl⟩⟩
 refine ⟨_, rfl, ?_⟩
 refine hK.out _ _ (b3A_ BK253 ⟨(cB_ hw255_0), (cB_ hw255_1), (cB_ hw255_2), (cB_ hw255_3), (cB_ hw255_4), (cB_ hw259_0)⟩) (fun hHeld => ?_)
 clear hK K
 refine nm_ 39 ?_
 refine pI_ 11 (bqz 12 4095) ?_
 refine dN_ ?_
 try go_wp2
 go_ret
 exact ⟨qzw, qz1⟩
 }
 }
 {
 have H' := aM H
 clear H
 go_wp2
 go_loopg [8] k2 (fun kq v8 w' => ∃ (x8_3 : Int), v8 = .int .i64 x8_3 ∧ Aside0 (spec_Clash.l1 kq l1 l2 x8_3 = some r) ∧ Aside0 (kq ≤ k2) ∧ Aside0 (w'.heap[gb253]? = some (.cells #[.int .i64 a0_0, .int .i64 a0_1, (.slice A0_2 l0_2.length c0_2)] 43 (0, 0))) ∧ Aside0 (Below w.heap.size w w'))
 case atStart => exact ⟨(0), qz7, H', ⟨Nat.le_refl _⟩, ⟨bk_ BK253.out⟩, ⟨qz1⟩⟩
 case round =>
 clear H'
 try clear c1
 try clear c2
 try clear c12
 try clear c13
 try clear c13b0
 obtain ⟨x8_3, rfl, HA, HK3, BK253, HB⟩ := hrel
 cases gk with
 | zero => exact absurd HA.out (by simp [spec_Clash.l1])
 | succ k3 =>
 have H := HA.out
 clear HA
 simp only [spec_Clash.l1] at H
 replace H := iE_ H
 rcases H with ⟨c25b0, H⟩ | ⟨c25b0, H⟩
 {
 have H' := aM H
 clear H
 go_wp2
 go_loopg [9] k3 (fun kq v9 w' => ∃ (x9_4 : Int), v9 = .int .i64 x9_4 ∧ Aside0 (spec_Clash.l2 kq l1 l2 x8_3 x9_4 = some r) ∧ Aside0 (kq ≤ k3) ∧ Aside0 (w'.heap[gb253]? = some (.cells #[.int .i64 a0_0, .int .i64 a0_1, (.slice A0_2 l0_2.length c0_2)] 43 (0, 0))) ∧ Aside0 (Below w.heap.size w w'))
 case atStart => exact ⟨(0), qz7, H', ⟨Nat.le_refl _⟩, ⟨bk_ BK253.out⟩, ⟨qz1⟩⟩
 case round =>
 clear H'
 try clear c1
 try clear c2
 try clear c12
 try clear c13
 try clear c13b0
 try clear c25
 try clear c25b0
 obtain ⟨x9_4, rfl, HA, HK4, BK253, HB⟩ := hrel
 cases gk with
 | zero => exact absurd HA.out (by simp [spec_Clash.l2])
 | succ k4 =>
 have H := HA.out
 clear HA
 simp only [spec_Clash.l2] at H
 replace H := iE_ H
 rcases H with ⟨c26b0, H⟩ | ⟨c26b0, H⟩
 {
 replace H := iD_ H
 obtain ⟨c27b0, H⟩ := H
 replace H := iD_ H
 obtain ⟨c28b0, H⟩ := H
 replace H := iD_ H
 obtain ⟨c29b0, H⟩ := H
 replace H := iD_ H
 obtain ⟨c30b0, H⟩ := H
 replace H := iQ_ H
 rcases H with ⟨c31b0, c31b1, H⟩ | ⟨c31, c31b0, c31b1, H⟩
 {
 obtain rfl := Option.some.inj H
 try go_wp2
 replace BK253 := aM (blk_drew BK253.out)
 replace HB := aM (below_drew1 HB.out)
 have p261 : (0 ≤ (x9_4 : Int)) = True := et_
 have q261 : (x9_4 < (l2.length : Int)) = True := et_
 obtain ⟨ad261, e261, hx261_0⟩ := Kd.at_int HR2.out x9_4 dt_ dt_
 have hw261_0 := hx261_0
 cases e261
 replace hx261_0 := cB_ hx261_0
 have p262 : (0 ≤ (x8_3 : Int)) = True := et_
 have q262 : (x8_3 < (l2.length : Int)) = True := et_
 obtain ⟨ad262, e262, hx262_0⟩ := Kd.at_int HR2.out x8_3 dt_ dt_
 have hw262_0 := hx262_0
 obtain rfl := iJ_ e262
 replace hx262_0 := cB_ hx262_0
 refine start_ (n := 9) (S := fun w' => w'.cell? (ad261.add (x9_4).toNat) = some (.int .i64 (rd l2 x9_4)) ∧ w'.cell? (ad261.add (x8_3).toNat) = some (.int .i64 (rd l2 x8_3))) (ds := []) #[false, false, false, false, false, false, false, false, false] (by kernel_rfl) rfl rfl ⟨(cB_ hw261_0), (cB_ hw262_0)⟩ (fun hHeld => ?_); refine with_tabW spec_Clash.tab14 spec_Clash.bits14 (fun HT_ HW_ => ?_)
 generalize wr.drew = w32 at BK253 HB hx261_0 hx262_0 hHeld ⊢
 refine pI_ 0 (bqz 9 1) ?_
 refine jI_ 1 ?_
 refine jI_ 2 ?_
 refine jI_ 4 ?_
 refine jI_ 5 ?_
 refine jI_ 6 ?_
 refine sI2_ 3 ?_
 refine sI2_ 7 ?_
 refine jI_ 8 ?_
 refine dN_ ?_
 try go_wp2
 go_ret
 exact ⟨qzw, qz1⟩
 }
 {
 have H' := aM H
 clear H
 try go_wp2
 replace BK253 := aM (blk_drew BK253.out)
 replace HB := aM (below_drew1 HB.out)
 have p261 : (0 ≤ (x9_4 : Int)) = True := et_
 have q261 : (x9_4 < (l2.length : Int)) = True := et_
 obtain ⟨ad261, e261, hx261_0⟩ := Kd.at_int HR2.out x9_4 dt_ dt_
 have hw261_0 := hx261_0
 cases e261
 replace hx261_0 := cB_ hx261_0
 have p262 : (0 ≤ (x8_3 : Int)) = True := et_
 have q262 : (x8_3 < (l2.length : Int)) = True := et_
 obtain ⟨ad262, e262, hx262_0⟩ := Kd.at_int HR2.out x8_3 dt_ dt_
 have hw262_0 := hx262_0
 obtain rfl := iJ_ e262
 replace hx262_0 := cB_ hx262_0
 refine start_ (n := 9) (S := fun w' => w'.cell? (ad261.add (x9_4).toNat) = some (.int .i64 (rd l2 x9_4)) ∧ w'.cell? (ad261.add (x8_3).toNat) = some (.int .i64 (rd l2 x8_3))) (ds := []) #[false, false, false, false, false, false, false, false, false] (by kernel_rfl) rfl rfl ⟨(cB_ hw261_0), (cB_ hw262_0)⟩ (fun hHeld => ?_); refine with_tabW spec_Clash.tab14 spec_Clash.bits14 (fun HT_ HW_ => ?_)
 generalize wr.drew = w33 at BK253 HB hx261_0 hx262_0 hHeld ⊢
 refine pI_ 0 (bqz 9 1) ?_
 refine jI_ 1 ?_
 refine jI_ 2 ?_
 refine jI_ 4 ?_
 refine jI_ 5 ?_
 refine jI_ 6 ?_
 refine sI2_ 3 ?_
 refine sI2_ 7 ?_
 refine jI_ 8 ?_
 refine dN_ ?_
 try go_wp2
 go_roundg k4
 case measure => have := HJ3.out; have := HK2.out; have := HK3.out; have := HK4.out; omega
 case rel => exact ⟨(wrap64 (x9_4 + 1)), qz7, H', ⟨by have := HJ3.out; have := HK2.out; have := HK3.out; have := HK4.out; omega⟩, ⟨bk_ BK253.out⟩, ⟨qz1⟩⟩
 }
 }
 {
 have H' := aM H
 clear H
 go_wp2
 go_roundg k4
 case measure => have := HJ3.out; have := HK2.out; have := HK3.out; have := HK4.out; omega
 case rel => exact ⟨(wrap64 (x8_3 + 1)), qz7, H', ⟨by have := HJ3.out; have := HK2.out; have := HK3.out; have := HK4.out; omega⟩, ⟨bk_ BK253.out⟩, ⟨qz1⟩⟩
 }
 }
 {
 have H' := aM H
 clear H
 go_wp2
 go_loopg [10] k3 (fun kq v10 w' => ∃ (x10_4 : Int), v10 = .int .i64 x10_4 ∧ Aside0 (spec_Clash.l3 kq l1 l2 x10_4 = some r) ∧ Aside0 (kq ≤ k3) ∧ Aside0 (w'.heap[gb253]? = some (.cells #[.int .i64 a0_0, .int .i64 a0_1, (.slice A0_2 l0_2.length c0_2)] 43 (0, 0))) ∧ Aside0 (Below w.heap.size w w'))
 case atStart => exact ⟨(0), qz7, H', ⟨Nat.le_refl _⟩, ⟨bk_ BK253.out⟩, ⟨qz1⟩⟩
 case round =>
 clear H'
 try clear c1
 try clear c2
 try clear c12
 try clear c13
 try clear c13b0
 try clear c25
 try clear c25b0
 obtain ⟨x10_4, rfl, HA, HK4, BK253, HB⟩ := hrel
 cases gk with
 | zero => exact absurd HA.out (by simp [spec_Clash.l3])
 | succ k4 =>
 have H := HA.out
 clear HA
 simp only [spec_Clash.l3] at H
 replace H := iE_ H
 rcases H with ⟨c34b0, H⟩ | ⟨c34b0, H⟩
 {
 have H' := aM H
 clear H
 go_wp2
 go_loopg [11] k4 (fun kq v11 w' => ∃ (x11_5 : Int), v11 = .int .i64 x11_5 ∧ Aside0 (spec_Clash.l4 kq l1 l2 x10_4 x11_5 = some r) ∧ Aside0 (kq ≤ k4) ∧ Aside0 (w'.heap[gb253]? = some (.cells #[.int .i64 a0_0, .int .i64 a0_1, (.slice A0_2 l0_2.length c0_2)] 43 (0, 0))) ∧ Aside0 (Below w.heap.size w w'))
 case atStart => exact ⟨(0), qz7, H', ⟨Nat.le_refl _⟩, ⟨bk_ BK253.out⟩, ⟨qz1⟩⟩
 case round =>
 clear H'
 try clear c1
 try clear c2
 try clear c12
 try clear c13
 try clear c13b0
 try clear c25
 try clear c25b0
 try clear c34
 try clear c34b0
 obtain ⟨x11_5, rfl, HA, HK5, BK253, HB⟩ := hrel
 cases gk with
 | zero => exact absurd HA.out (by simp [spec_Clash.l4])
 | succ k5 =>
 have H := HA.out
 clear HA
 simp only [spec_Clash.l4] at H
 replace H := iE_ H
 rcases H with ⟨c35b0, H⟩ | ⟨c35b0, H⟩
 {
 replace H := iD_ H
 obtain ⟨c36b0, H⟩ := H
 replace H := iD_ H
 obtain ⟨c37b0, H⟩ := H
 replace H := iD_ H
 obtain ⟨c38b0, H⟩ := H
 replace H := iD_ H
 obtain ⟨c39b0, H⟩ := H
 replace H := iQ_ H
 rcases H with ⟨c40b0, c40b1, H⟩ | ⟨c40, c40b0, c40b1, H⟩
 {
 replace H := iD_ H
 obtain ⟨c41b0, H⟩ := H
 replace H := iD_ H
 obtain ⟨c42b0, H⟩ := H
 replace H := iQ_ H
 rcases H with ⟨c43b0, c43b1, H⟩ | ⟨c43, c43b0, c43b1, H⟩
 {
 obtain rfl := Option.some.inj H
 try go_wp2
 replace BK253 := aM (blk_drew BK253.out)
 replace HB := aM (below_drew1 HB.out)
 have p263 : (0 ≤ (x11_5 : Int)) = True := et_
 have q263 : (x11_5 < (l2.length : Int)) = True := et_
 obtain ⟨ad263, e263, hx263_0⟩ := Kd.at_int HR2.out x11_5 dt_ dt_
 have hw263_0 := hx263_0
 cases e263
 replace hx263_0 := cB_ hx263_0
 have p264 : (0 ≤ (x10_4 : Int)) = True := et_
 have q264 : (x10_4 < (l1.length : Int)) = True := et_
 obtain ⟨ad264, e264, hx264_0, hx264_1, hx264_2, hx264_3, hx264_4⟩ := at_T37 HR1.out x10_4 dt_ dt_
 have hw264_4 := hx264_4
 have hw264_3 := hx264_3
 have hw264_2 := hx264_2
 have hw264_1 := hx264_1
 have hw264_0 := hx264_0
 cases e264
 replace hx264_0 := cB_ hx264_0
 replace hx264_1 := cB_ hx264_1
 replace hx264_2 := cB_ hx264_2
 replace hx264_3 := cB_ hx264_3
 replace hx264_4 := cB_ hx264_4
 have p265 : (0 ≤ (x10_4 : Int)) = True := et_
 have q265 : (x10_4 < (l2.length : Int)) = True := et_
 obtain ⟨ad265, e265, hx265_0⟩ := Kd.at_int HR2.out x10_4 dt_ dt_
 have hw265_0 := hx265_0
 obtain rfl := iJ_ e265
 replace hx265_0 := cB_ hx265_0
 have p266 : (0 ≤ (x11_5 : Int)) = True := et_
 have q266 : (x11_5 < (l1.length : Int)) = True := et_
 obtain ⟨ad266, e266, hx266_0, hx266_1, hx266_2, hx266_3, hx266_4⟩ := at_T37 HR1.out x11_5 dt_ dt_
 have hw266_4 := hx266_4
 have hw266_3 := hx266_3
 have hw266_2 := hx266_2
 have hw266_1 := hx266_1
 have hw266_0 := hx266_0
 obtain rfl := iJ_ e266
 replace hx266_0 := cB_ hx266_0
 replace hx266_1 := cB_ hx266_1
 replace hx266_2 := cB_ hx266_2
 replace hx266_3 := cB_ hx266_3
 replace hx266_4 := cB_ hx266_4
 refine start_ (n := 22) (S := fun w' => w'.cell? (ad263.add (x11_5).toNat) = some (.int .i64 (rd l2 x11_5)) ∧ w'.cell? (ad264.add ((x10_4).toNat * 5)) = some (.int .i64 ((rd_T37 l1 x10_4).f0)) ∧ w'.cell? ⟨(ad264.add ((x10_4).toNat * 5)).block, (ad264.add ((x10_4).toNat * 5)).off + 1, none⟩ = some (.int .i64 ((rd_T37 l1 x10_4).f1)) ∧ w'.cell? ⟨(ad264.add ((x10_4).toNat * 5)).block, (ad264.add ((x10_4).toNat * 5)).off + 2, none⟩ = some (.int .i64 ((rd_T37 l1 x10_4).f2)) ∧ w'.cell? ⟨(ad264.add ((x10_4).toNat * 5)).block, (ad264.add ((x10_4).toNat * 5)).off + 3, none⟩ = some (.bool ((rd_T37 l1 x10_4).f3)) ∧ w'.cell? ⟨(ad264.add ((x10_4).toNat * 5)).block, (ad264.add ((x10_4).toNat * 5)).off + 4, none⟩ = some (.int .i64 ((rd_T37 l1 x10_4).f4)) ∧ w'.cell? (ad263.add (x10_4).toNat) = some (.int .i64 (rd l2 x10_4)) ∧ w'.cell? (ad264.add ((x11_5).toNat * 5)) = some (.int .i64 ((rd_T37 l1 x11_5).f0)) ∧ w'.cell? ⟨(ad264.add ((x11_5).toNat * 5)).block, (ad264.add ((x11_5).toNat * 5)).off + 1, none⟩ = some (.int .i64 ((rd_T37 l1 x11_5).f1)) ∧ w'.cell? ⟨(ad264.add ((x11_5).toNat * 5)).block, (ad264.add ((x11_5).toNat * 5)).off + 2, none⟩ = some (.int .i64 ((rd_T37 l1 x11_5).f2)) ∧ w'.cell? ⟨(ad264.add ((x11_5).toNat * 5)).block, (ad264.add ((x11_5).toNat * 5)).off + 3, none⟩ = some (.bool ((rd_T37 l1 x11_5).f3)) ∧ w'.cell? ⟨(ad264.add ((x11_5).toNat * 5)).block, (ad264.add ((x11_5).toNat * 5)).off + 4, none⟩ = some (.int .i64 ((rd_T37 l1 x11_5).f4))) (ds := []) #[false, false, false, false, false, false, false, false, false, false, false, false, false, false, false, false, false, false, false, false, false, false] (by kernel_rfl) rfl rfl ⟨(cB_ hw263_0), (cB_ hw264_0), (cB_ hw264_1), (cB_ hw264_2), (cB_ hw264_3), (cB_ hw264_4), (cB_ hw265_0), (cB_ hw266_0), (cB_ hw266_1), (cB_ hw266_2), (cB_ hw266_3), (cB_ hw266_4)⟩ (fun hHeld => ?_); refine with_tabW spec_Clash.tab22 spec_Clash.bits22 (fun HT_ HW_ => ?_)
 generalize wr.drew = w44 at BK253 HB hx263_0 hx264_0 hx264_1 hx264_2 hx264_3 hx264_4 hx265_0 hx266_0 hx266_1 hx266_2 hx266_3 hx266_4 hHeld ⊢
 refine pI_ 0 (bqz 22 1) ?_
 refine jI_ 1 ?_
 refine jI_ 2 ?_
 refine jI_ 4 ?_
 refine jI_ 5 ?_
 refine jI_ 6 ?_
 refine jI_ 7 ?_
 refine sI12_ 3 ?_
 refine sI12_ 8 ?_
 refine jI_ 9 ?_
 refine jI_ 10 ?_
 refine jI_ 11 ?_
 refine jI_ 12 ?_
 refine jI_ 13 ?_
 refine jI_ 15 ?_
 refine jI_ 16 ?_
 refine jI_ 17 ?_
 refine jI_ 18 ?_
 refine sI12_ 14 ?_
 refine sI12_ 19 ?_
 refine jI_ 20 ?_
 refine jI_ 21 ?_
 refine dN_ ?_
 try go_wp2
 go_ret
 exact ⟨qzw, qz1⟩
 }
 {
 have H' := aM H
 clear H
 try go_wp2
 replace BK253 := aM (blk_drew BK253.out)
 replace HB := aM (below_drew1 HB.out)
 have p263 : (0 ≤ (x11_5 : Int)) = True := et_
 have q263 : (x11_5 < (l2.length : Int)) = True := et_
 obtain ⟨ad263, e263, hx263_0⟩ := Kd.at_int HR2.out x11_5 dt_ dt_
 have hw263_0 := hx263_0
 cases e263
 replace hx263_0 := cB_ hx263_0
 have p264 : (0 ≤ (x10_4 : Int)) = True := et_
 have q264 : (x10_4 < (l1.length : Int)) = True := et_
 obtain ⟨ad264, e264, hx264_0, hx264_1, hx264_2, hx264_3, hx264_4⟩ := at_T37 HR1.out x10_4 dt_ dt_
 have hw264_4 := hx264_4
 have hw264_3 := hx264_3
 have hw264_2 := hx264_2
 have hw264_1 := hx264_1
 have hw264_0 := hx264_0
 cases e264
 replace hx264_0 := cB_ hx264_0
 replace hx264_1 := cB_ hx264_1
 replace hx264_2 := cB_ hx264_2
 replace hx264_3 := cB_ hx264_3
 replace hx264_4 := cB_ hx264_4
 have p265 : (0 ≤ (x10_4 : Int)) = True := et_
 have q265 : (x10_4 < (l2.length : Int)) = True := et_
 obtain ⟨ad265, e265, hx265_0⟩ := Kd.at_int HR2.out x10_4 dt_ dt_
 have hw265_0 := hx265_0
 obtain rfl := iJ_ e265
 replace hx265_0 := cB_ hx265_0
 have p266 : (0 ≤ (x11_5 : Int)) = True := et_
 have q266 : (x11_5 < (l1.length : Int)) = True := et_
 obtain ⟨ad266, e266, hx266_0, hx266_1, hx266_2, hx266_3, hx266_4⟩ := at_T37 HR1.out x11_5 dt_ dt_
 have hw266_4 := hx266_4
 have hw266_3 := hx266_3
 have hw266_2 := hx266_2
 have hw266_1 := hx266_1
 have hw266_0 := hx266_0
 obtain rfl := iJ_ e266
 replace hx266_0 := cB_ hx266_0
 replace hx266_1 := cB_ hx266_1
 replace hx266_2 := cB_ hx266_2
 replace hx266_3 := cB_ hx266_3
 replace hx266_4 := cB_ hx266_4
 refine start_ (n := 22) (S := fun w' => w'.cell? (ad263.add (x11_5).toNat) = some (.int .i64 (rd l2 x11_5)) ∧ w'.cell? (ad264.add ((x10_4).toNat * 5)) = some (.int .i64 ((rd_T37 l1 x10_4).f0)) ∧ w'.cell? ⟨(ad264.add ((x10_4).toNat * 5)).block, (ad264.add ((x10_4).toNat * 5)).off + 1, none⟩ = some (.int .i64 ((rd_T37 l1 x10_4).f1)) ∧ w'.cell? ⟨(ad264.add ((x10_4).toNat * 5)).block, (ad264.add ((x10_4).toNat * 5)).off + 2, none⟩ = some (.int .i64 ((rd_T37 l1 x10_4).f2)) ∧ w'.cell? ⟨(ad264.add ((x10_4).toNat * 5)).block, (ad264.add ((x10_4).toNat * 5)).off + 3, none⟩ = some (.bool ((rd_T37 l1 x10_4).f3)) ∧ w'.cell? ⟨(ad264.add ((x10_4).toNat * 5)).block, (ad264.add ((x10_4).toNat * 5)).off + 4, none⟩ = some (.int .i64 ((rd_T37 l1 x10_4).f4)) ∧ w'.cell? (ad263.add (x10_4).toNat) = some (.int .i64 (rd l2 x10_4)) ∧ w'.cell? (ad264.add ((x11_5).toNat * 5)) = some (.int .i64 ((rd_T37 l1 x11_5).f0)) ∧ w'.cell? ⟨(ad264.add ((x11_5).toNat * 5)).block, (ad264.add ((x11_5).toNat * 5)).off + 1, none⟩ = some (.int .i64 ((rd_T37 l1 x11_5).f1)) ∧ w'.cell? ⟨(ad264.add ((x11_5).toNat * 5)).block, (ad264.add ((x11_5).toNat * 5)).off + 2, none⟩ = some (.int .i64 ((rd_T37 l1 x11_5).f2)) ∧ w'.cell? ⟨(ad264.add ((x11_5).toNat * 5)).block, (ad264.add ((x11_5).toNat * 5)).off + 3, none⟩ = some (.bool ((rd_T37 l1 x11_5).f3)) ∧ w'.cell? ⟨(ad264.add ((x11_5).toNat * 5)).block, (ad264.add ((x11_5).toNat * 5)).off + 4, none⟩ = some (.int .i64 ((rd_T37 l1 x11_5).f4))) (ds := []) #[false, false, false, false, false, false, false, false, false, false, false, false, false, false, false, false, false, false, false, false, false, false] (by kernel_rfl) rfl rfl ⟨(cB_ hw263_0), (cB_ hw264_0), (cB_ hw264_1), (cB_ hw264_2), (cB_ hw264_3), (cB_ hw264_4), (cB_ hw265_0), (cB_ hw266_0), (cB_ hw266_1), (cB_ hw266_2), (cB_ hw266_3), (cB_ hw266_4)⟩ (fun hHeld => ?_); refine with_tabW spec_Clash.tab22 spec_Clash.bits22 (fun HT_ HW_ => ?_)
 generalize wr.drew = w45 at BK253 HB hx263_0 hx264_0 hx264_1 hx264_2 hx264_3 hx264_4 hx265_0 hx266_0 hx266_1 hx266_2 hx266_3 hx266_4 hHeld ⊢
 refine pI_ 0 (bqz 22 1) ?_
 refine jI_ 1 ?_
 refine jI_ 2 ?_
 refine jI_ 4 ?_
 refine jI_ 5 ?_
 refine jI_ 6 ?_
 refine jI_ 7 ?_
 refine sI12_ 3 ?_
 refine sI12_ 8 ?_
 refine jI_ 9 ?_
 refine jI_ 10 ?_
 refine jI_ 11 ?_
 refine jI_ 12 ?_
 refine jI_ 13 ?_
 refine jI_ 15 ?_
 refine jI_ 16 ?_
 refine jI_ 17 ?_
 refine jI_ 18 ?_
 refine sI12_ 14 ?_
 refine sI12_ 19 ?_
 refine jI_ 20 ?_
 refine jI_ 21 ?_
 refine dN_ ?_
 try go_wp2
 go_roundg k5
 case measure => have := HJ3.out; have := HK2.out; have := HK3.out; have := HK4.out; have := HK5.out; omega
 case rel => exact ⟨(wrap64 (x11_5 + 1)), qz7, H', ⟨by have := HJ3.out; have := HK2.out; have := HK3.out; have := HK4.out; have := HK5.out; omega⟩, ⟨bk_ BK253.out⟩, ⟨qz1⟩⟩
 }
 }
 {
 have H' := aM H
 clear H
 try go_wp2
 replace BK253 := aM (blk_drew BK253.out)
 replace HB := aM (below_drew1 HB.out)
 have p263 : (0 ≤ (x11_5 : Int)) = True := et_
 have q263 : (x11_5 < (l2.length : Int)) = True := et_
 obtain ⟨ad263, e263, hx263_0⟩ := Kd.at_int HR2.out x11_5 dt_ dt_
 have hw263_0 := hx263_0
 cases e263
 replace hx263_0 := cB_ hx263_0
 have p264 : (0 ≤ (x10_4 : Int)) = True := et_
 have q264 : (x10_4 < (l1.length : Int)) = True := et_
 obtain ⟨ad264, e264, hx264_0, hx264_1, hx264_2, hx264_3, hx264_4⟩ := at_T37 HR1.out x10_4 dt_ dt_
 have hw264_4 := hx264_4
 have hw264_3 := hx264_3
 have hw264_2 := hx264_2
 have hw264_1 := hx264_1
 have hw264_0 := hx264_0
 cases e264
 replace hx264_0 := cB_ hx264_0
 replace hx264_1 := cB_ hx264_1
 replace hx264_2 := cB_ hx264_2
 replace hx264_3 := cB_ hx264_3
 replace hx264_4 := cB_ hx264_4
 refine start_ (n := 22) (S := fun w' => w'.cell? (ad263.add (x11_5).toNat) = some (.int .i64 (rd l2 x11_5)) ∧ w'.cell? (ad264.add ((x10_4).toNat * 5)) = some (.int .i64 ((rd_T37 l1 x10_4).f0)) ∧ w'.cell? ⟨(ad264.add ((x10_4).toNat * 5)).block, (ad264.add ((x10_4).toNat * 5)).off + 1, none⟩ = some (.int .i64 ((rd_T37 l1 x10_4).f1)) ∧ w'.cell? ⟨(ad264.add ((x10_4).toNat * 5)).block, (ad264.add ((x10_4).toNat * 5)).off + 2, none⟩ = some (.int .i64 ((rd_T37 l1 x10_4).f2)) ∧ w'.cell? ⟨(ad264.add ((x10_4).toNat * 5)).block, (ad264.add ((x10_4).toNat * 5)).off + 3, none⟩ = some (.bool ((rd_T37 l1 x10_4).f3)) ∧ w'.cell? ⟨(ad264.add ((x10_4).toNat * 5)).block, (ad264.add ((x10_4).toNat * 5)).off + 4, none⟩ = some (.int .i64 ((rd_T37 l1 x10_4).f4))) (ds := []) #[false, false, false, false, false, false, false, false, false, false, false, false, false, false, false, false, false, false, false, false, false, false] (by kernel_rfl) rfl rfl ⟨(cB_ hw263_0), (cB_ hw264_0), (cB_ hw264_1), (cB_ hw264_2), (cB_ hw264_3), (cB_ hw264_4)⟩ (fun hHeld => ?_); refine with_tabW spec_Clash.tab22 spec_Clash.bits22 (fun HT_ HW_ => ?_)
 generalize wr.drew = w46 at BK253 HB hx263_0 hx264_0 hx264_1 hx264_2 hx264_3 hx264_4 hHeld ⊢
 refine pI_ 0 (bqz 22 1) ?_
 refine jI_ 1 ?_
 refine jI_ 2 ?_
 refine jI_ 4 ?_
 refine jI_ 5 ?_
 refine jI_ 6 ?_
 refine jI_ 7 ?_
 refine sI6_ 3 ?_
 refine sI6_ 8 ?_
 refine jI_ 9 ?_
 refine jI_ 10 ?_
 refine jU_ 11 ?_
 refine jU_ 12 ?_
 refine jU_ 13 ?_
 refine jU_ 14 ?_
 refine jU_ 15 ?_
 refine jU_ 16 ?_
 refine jU_ 17 ?_
 refine jU_ 18 ?_
 refine jU_ 19 ?_
 refine jU_ 20 ?_
 refine jI_ 21 ?_
 refine dN_ ?_
 try go_wp2
 go_roundg k5
 case measure => have := HJ3.out; have := HK2.out; have := HK3.out; have := HK4.out; have := HK5.out; omega
 case rel => exact ⟨(wrap64 (x11_5 + 1)), qz7, H', ⟨by have := HJ3.out; have := HK2.out; have := HK3.out; have := HK4.out; have := HK5.out; omega⟩, ⟨bk_ BK253.out⟩, ⟨qz1⟩⟩
 }
 }
 {
 have H' := aM H
 clear H
 go_wp2
 go_roundg k5
 case measure => have := HJ3.out; have := HK2.out; have := HK3.out; have := HK4.out; have := HK5.out; omega
 case rel => exact ⟨(wrap64 (x10_4 + 1)), qz7, H', ⟨by have := HJ3.out; have := HK2.out; have := HK3.out; have := HK4.out; have := HK5.out; omega⟩, ⟨bk_ BK253.out⟩, ⟨qz1⟩⟩
 }
 }
 {
 obtain rfl := Option.some.inj H
 go_wp2
 go_ret
 exact ⟨qzw, qz1⟩
 }
 }
 }
 }
/-! ### impl_in: function 88 -/
def impl_in.f (a0 : Int) (a1 : Int) (a2 : Int) : Option (Bool) := if a0 ≥ a1 then (some (decide (a0 ≤ a2))) else (some false)
theorem impl_in.calls (a0 : Int) (a1 : Int) (a2 : Int) (r : Bool) (w : World) (h : impl_in.f a0 a1 a2 = some r) :
  Calls Try.prog 88 #[.int .i64 a0, .int .i64 a1, .int .i64 a2] w fun e w' => e = .returned (.bool r) ∧ Drawn0 w w' := by
 unfold impl_in.f at h
 have H := h
 clear h
 replace H := iE_ H
 rcases H with ⟨c4b0, H⟩ | ⟨c4b0, H⟩
 {
 obtain rfl := Option.some.inj H
 go_enter Try.func88, Try.ntmps88
 go_wp2
 go_ret
 exact ⟨by first | rfl | (simp; done) | (simp [*]; done), by repeat (first | exact Drawn0.refl _ | apply Drawn0.step)⟩
 }
 {
 obtain rfl := Option.some.inj H
 go_enter Try.func88, Try.ntmps88
 go_wp2
 go_ret
 exact ⟨by first | rfl | (simp; done) | (simp [*]; done), by repeat (first | exact Drawn0.refl _ | apply Drawn0.step)⟩
 }
/-! ### impl_FloorOk: function 64 -/
mutual
def impl_FloorOk.j0 : Nat → Bool → Int → Int → List Int → Option (Bool)
 | 0, _, _, _, _ => none
 | k + 1, x25, x268000, x268001, x268002 => if x25 = true then (some false) else (impl_FloorOk.l0 k x268002 (x268002.length : Int) 0)
def impl_FloorOk.l0 : Nat → List Int → Int → Int → Option (Bool)
 | 0, _, _, _ => none
 | k + 1, x27, x28, x29 => if x29 < x28 then (if 0 ≤ x29 then (if x29 < (x27.length : Int) then ((impl_in.f (rd x27 x29) 0 4).bind fun t271 => (if t271 = true then (impl_FloorOk.l0 k x27 x28 (wrap64 (x29 + 1))) else (some false))) else (none)) else (none)) else (some true)
end
def impl_FloorOk.f (k : Nat) (a0_0 : Int) (a0_1 : Int) (l0_2 : List Int) : Option (Bool) := (impl_in.f a0_0 1 10).bind fun t268 => (if t268 = true then ((impl_in.f a0_1 1 10).bind fun t269 => (if t269 = true then (impl_FloorOk.j0 k ((l0_2.length : Int) != (wrap64 (a0_0 * a0_1))) a0_0 a0_1 l0_2) else (impl_FloorOk.j0 k true a0_0 a0_1 l0_2))) else (impl_FloorOk.j0 k true a0_0 a0_1 l0_2))
theorem impl_FloorOk.mono_l : ∀ k, (∀ y0 y1 y2 y3, LeO (impl_FloorOk.j0 k y0 y1 y2 y3) (impl_FloorOk.j0 (k + 1) y0 y1 y2 y3)) ∧ (∀ y0 y1 y2, LeO (impl_FloorOk.l0 k y0 y1 y2) (impl_FloorOk.l0 (k + 1) y0 y1 y2))
 | 0 => ⟨fun _ _ _ _ r h => by simp [impl_FloorOk.j0] at h, fun _ _ _ r h => by simp [impl_FloorOk.l0] at h⟩
 | k + 1 => by
  obtain ⟨ih0, ih1⟩ := impl_FloorOk.mono_l k
  refine ⟨?_, ?_⟩
  {
  intro y0 y1 y2 y3
  unfold impl_FloorOk.j0
  exact qL
  }
  {
  intro y0 y1 y2
  unfold impl_FloorOk.l0
  exact qL
  }
theorem impl_FloorOk.mono : ∀ a0 a1 a2 k, LeO (impl_FloorOk.f k a0 a1 a2) (impl_FloorOk.f (k + 1) a0 a1 a2) := by
 intro a0 a1 a2 k
 obtain ⟨ih0, ih1⟩ := impl_FloorOk.mono_l k
 unfold impl_FloorOk.f
 exact qL
theorem impl_FloorOk.calls (k : Nat) (a0_0 : Int) (a0_1 : Int) (A0_2 : Option Addr) (c0_2 : Nat) (l0_2 : List Int) (r : Bool) (w : World) (hr0_2 : Kd.C (Kd.int .i64) w A0_2 l0_2.length l0_2) (hc0_2 : l0_2.length ≤ c0_2) (h : impl_FloorOk.f k a0_0 a0_1 l0_2 = some r) :
  Calls Try.prog 64 #[.agg #[.int .i64 a0_0, .int .i64 a0_1, .slice A0_2 l0_2.length c0_2]] w fun e w' => e = .returned (.bool r) ∧ Below w.heap.size w w' := by
 have hu43 := Try.underlying43
 have HR0_2 := aM hr0_2
 have HC0_2 := aM hc0_2
 clear hr0_2 hc0_2
 have HB := aM (Below.refl w.heap.size w)
 unfold impl_FloorOk.f at h
 have H := h
 clear h
 have HC2 := aM H
 clear H
 go_enter Try.func64, Try.ntmps64
 go_upto_region 1 with (first | ((with_reducible refine gate_dst (N := 1) rfl ?_); (try (refine gate_guard (by rfl) ?_; dsimp only)); refine bx_ 1 #[.int .i64 a0_0, .int .i64 a0_1, .slice A0_2 l0_2.length c0_2] 43 ?_; intro gb267 hg w3 hbox hb; have BK267 := aM (hbox); have GW267 := aM (bz_ w hg qz1); have GE267 := GW267; replace HB := bS_ hb; clear hb hbox hg))
 (try simp only [Act.put, List.setIfInBounds_toArray, List.set_cons_zero, List.set_cons_succ])
 go_cut [25] (fun v25 wc => ∃ (kq : Nat) (x25_1 : Bool), v25 = .bool x25_1 ∧ Aside0 (impl_FloorOk.j0 kq x25_1 a0_0 a0_1 l0_2 = some r) ∧ Aside0 (kq ≤ k) ∧ Aside0 (wc.heap[gb267]? = some (.cells #[.int .i64 a0_0, .int .i64 a0_1, (.slice A0_2 l0_2.length c0_2)] 43 (0, 0))) ∧ Aside0 (Below w.heap.size w wc))
 case first =>
  have H := HC2.out
  clear HC2
  replace H := Option.bind_eq_some_iff.mp H
  obtain ⟨t268, A40, H⟩ := H
  have A4 := aM A40
  clear A40
  replace H := iB_ H
  rcases H with ⟨rfl, H⟩ | ⟨rfl, H⟩
  {
  replace H := Option.bind_eq_some_iff.mp H
  obtain ⟨t269, A60, H⟩ := H
  have A6 := aM A60
  clear A60
  replace H := iB_ H
  rcases H with ⟨rfl, H⟩ | ⟨rfl, H⟩
  {
  have H' := aM H
  clear H
  obtain ⟨hcz8_0, hcz8_1, hcz8_2, hfz8_0, hfz8_1, hfz8_2⟩ := b6_ BK267.out
  go_wp2_with (first | ((with_reducible refine gate_callee (f := 88) rfl ?_); refine goesL_ (some 7) rfl rfl Try.func88 (by kernel_rfl) rfl #[.int .i64 a0_0, .int .i64 1, .int .i64 10] rfl qz2 ?_; (with_reducible refine (impl_in.calls a0_0 1 10 true _ A4.out).mono ?_); rintro e w' ⟨rfl, ⟨nd, rfl⟩⟩; refine ⟨_, rfl, ?_⟩) | (go_at_call 88; (with_reducible refine (impl_in.calls a0_1 1 10 true _ A6.out).mono ?_); rintro e w' ⟨rfl, ⟨nd, rfl⟩⟩))
  go_meet
  case rel => exact ⟨_, (((l0_2.length : Int) != (wrap64 (a0_0 * a0_1)))), qz7, H', ⟨by first | omega | exact Nat.le_refl _⟩, ⟨bk_ BK267.out⟩, ⟨qz1⟩⟩
  }
  {
  have H' := aM H
  clear H
  obtain ⟨hcz9_0, hcz9_1, hcz9_2, hfz9_0, hfz9_1, hfz9_2⟩ := b6_ BK267.out
  go_wp2_with (first | ((with_reducible refine gate_callee (f := 88) rfl ?_); refine goesL_ (some 7) rfl rfl Try.func88 (by kernel_rfl) rfl #[.int .i64 a0_0, .int .i64 1, .int .i64 10] rfl qz2 ?_; (with_reducible refine (impl_in.calls a0_0 1 10 true _ A4.out).mono ?_); rintro e w' ⟨rfl, ⟨nd, rfl⟩⟩; refine ⟨_, rfl, ?_⟩) | (go_at_call 88; (with_reducible refine (impl_in.calls a0_1 1 10 false _ A6.out).mono ?_); rintro e w' ⟨rfl, ⟨nd, rfl⟩⟩))
  go_meet
  case rel => exact ⟨_, (true), qz7, H', ⟨by first | omega | exact Nat.le_refl _⟩, ⟨bk_ BK267.out⟩, ⟨qz1⟩⟩
  }
  }
  {
  have H' := aM H
  clear H
  obtain ⟨hcz10_0, hcz10_1, hcz10_2, hfz10_0, hfz10_1, hfz10_2⟩ := b6_ BK267.out
  go_wp2_with (first | ((with_reducible refine gate_callee (f := 88) rfl ?_); refine goesL_ (some 7) rfl rfl Try.func88 (by kernel_rfl) rfl #[.int .i64 a0_0, .int .i64 1, .int .i64 10] rfl qz2 ?_; (with_reducible refine (impl_in.calls a0_0 1 10 false _ A4.out).mono ?_); rintro e w' ⟨rfl, ⟨nd, rfl⟩⟩; refine ⟨_, rfl, ?_⟩))
  go_meet
  case rel => exact ⟨_, (true), qz7, H', ⟨by first | omega | exact Nat.le_refl _⟩, ⟨bk_ BK267.out⟩, ⟨qz1⟩⟩
  }
 case rest =>
 clear HC2
 obtain ⟨kq, x25_1, rfl, HA, HJ1, BK267, HB⟩ := hcut
 cases kq with
 | zero => exact absurd HA.out (by simp [impl_FloorOk.j0])
 | succ kj1 =>
 have H := HA.out
 clear HA
 simp only [impl_FloorOk.j0] at H
 replace H := iB_ H
 rcases H with ⟨rfl, H⟩ | ⟨rfl, H⟩
 {
 obtain rfl := Option.some.inj H
 go_wp2
 go_ret
 exact ⟨qzw, qz1⟩
 }
 {
 have H' := aM H
 clear H
 obtain ⟨hcz12_0, hcz12_1, hcz12_2, hfz12_0, hfz12_1, hfz12_2⟩ := b6_ BK267.out
 go_wp2
 go_loopg [29] kj1 (fun kq v29 w' => ∃ (x29_2 : Int), v29 = .int .i64 x29_2 ∧ Aside0 (impl_FloorOk.l0 kq l0_2 (l0_2.length : Int) x29_2 = some r) ∧ Aside0 (kq ≤ kj1) ∧ Aside0 (w'.heap[gb267]? = some (.cells #[.int .i64 a0_0, .int .i64 a0_1, (.slice A0_2 l0_2.length c0_2)] 43 (0, 0))) ∧ Aside0 (Below w.heap.size w w'))
 case atStart => exact ⟨(0), qz7, H', ⟨Nat.le_refl _⟩, ⟨bk_ BK267.out⟩, ⟨qz1⟩⟩
 case round =>
 clear H'
 try clear c11
 try clear hcz12_0 hcz12_1 hcz12_2 hfz12_0 hfz12_1 hfz12_2
 obtain ⟨x29_2, rfl, HA, HK2, BK267, HB⟩ := hrel
 cases gk with
 | zero => exact absurd HA.out (by simp [impl_FloorOk.l0])
 | succ k2 =>
 have H := HA.out
 clear HA
 simp only [impl_FloorOk.l0] at H
 replace H := iE_ H
 rcases H with ⟨c13b0, H⟩ | ⟨c13b0, H⟩
 {
 replace H := iD_ H
 obtain ⟨c14b0, H⟩ := H
 replace H := iD_ H
 obtain ⟨c15b0, H⟩ := H
 replace H := Option.bind_eq_some_iff.mp H
 obtain ⟨t271, A160, H⟩ := H
 have A16 := aM A160
 clear A160
 replace H := iB_ H
 rcases H with ⟨rfl, H⟩ | ⟨rfl, H⟩
 {
 have H' := aM H
 clear H
 have p270 : (0 ≤ (x29_2 : Int)) = True := et_
 have q270 : (x29_2 < (l0_2.length : Int)) = True := et_
 obtain ⟨ad270, e270, hx270_0⟩ := tC1_ (Kd.at_int HR0_2.out x29_2 dt_ dt_)
 cases e270
 go_wp2_with (first | ((with_reducible refine gate_callee (f := 88) rfl ?_); refine goesL_ (some 34) rfl rfl Try.func88 (by kernel_rfl) rfl #[.int .i64 (rd l0_2 x29_2), .int .i64 0, .int .i64 4] rfl qz2 ?_; (with_reducible refine (impl_in.calls (rd l0_2 x29_2) 0 4 true _ A16.out).mono ?_); rintro e w' ⟨rfl, ⟨nd, rfl⟩⟩; refine ⟨_, rfl, ?_⟩))
 go_roundg k2
 case measure => have := HJ1.out; have := HK2.out; omega
 case rel => exact ⟨(wrap64 (x29_2 + 1)), qz7, H', ⟨by have := HJ1.out; have := HK2.out; omega⟩, ⟨bk_ BK267.out⟩, ⟨qz1⟩⟩
 }
 {
 obtain rfl := Option.some.inj H
 have p270 : (0 ≤ (x29_2 : Int)) = True := et_
 have q270 : (x29_2 < (l0_2.length : Int)) = True := et_
 obtain ⟨ad270, e270, hx270_0⟩ := tC1_ (Kd.at_int HR0_2.out x29_2 dt_ dt_)
 cases e270
 go_wp2_with (first | ((with_reducible refine gate_callee (f := 88) rfl ?_); refine goesL_ (some 34) rfl rfl Try.func88 (by kernel_rfl) rfl #[.int .i64 (rd l0_2 x29_2), .int .i64 0, .int .i64 4] rfl qz2 ?_; (with_reducible refine (impl_in.calls (rd l0_2 x29_2) 0 4 false _ A16.out).mono ?_); rintro e w' ⟨rfl, ⟨nd, rfl⟩⟩; refine ⟨_, rfl, ?_⟩))
 go_ret
 exact ⟨qzw, qz1⟩
 }
 }
 {
 obtain rfl := Option.some.inj H
 go_wp2
 go_ret
 exact ⟨qzw, qz1⟩
 }
 }
/-! ### impl_isCell: function 74 -/
def impl_isCell.f (a0_0 : Int) (a0_1 : Int) (l0_2 : List Int) (a1 : Int) : Option (Bool) := (impl_in.f a1 0 (wrap64 ((l0_2.length : Int) - 1))).bind fun t273 => (some t273)
theorem impl_isCell.calls (a0_0 : Int) (a0_1 : Int) (A0_2 : Option Addr) (c0_2 : Nat) (l0_2 : List Int) (a1 : Int) (r : Bool) (w : World) (hr0_2 : Kd.C (Kd.int .i64) w A0_2 l0_2.length l0_2) (hc0_2 : l0_2.length ≤ c0_2) (h : impl_isCell.f a0_0 a0_1 l0_2 a1 = some r) :
  Calls Try.prog 74 #[.agg #[.int .i64 a0_0, .int .i64 a0_1, .slice A0_2 l0_2.length c0_2], .int .i64 a1] w fun e w' => e = .returned (.bool r) ∧ Below w.heap.size w w' := by
 have hu43 := Try.underlying43
 have HR0_2 := aM hr0_2
 have HC0_2 := aM hc0_2
 clear hr0_2 hc0_2
 have HB := aM (Below.refl w.heap.size w)
 unfold impl_isCell.f at h
 have H := h
 clear h
 replace H := Option.bind_eq_some_iff.mp H
 obtain ⟨t273, A30, H⟩ := H
 have A3 := aM A30
 clear A30
 obtain rfl := Option.some.inj H
 go_enter Try.func74, Try.ntmps74
 go_wp2_with (first | ((with_reducible refine gate_dst (N := 2) rfl ?_); refine bx_ 2 #[.int .i64 a0_0, .int .i64 a0_1, .slice A0_2 l0_2.length c0_2] 43 ?_; intro gb272 hg w4 hbox hb; have BK272 := aM (hbox); have GW272 := aM (bz_ w hg qz1); have GE272 := GW272; replace HB := bS_ hb; clear hb hbox hg; obtain ⟨hcz5_0, hcz5_1, hcz5_2, hfz5_0, hfz5_1, hfz5_2⟩ := b6_ BK272.out) | ((with_reducible refine gate_callee (f := 88) rfl ?_); refine goesL_ (some 10) rfl rfl Try.func88 (by kernel_rfl) rfl #[.int .i64 a1, .int .i64 0, .int .i64 (wrap64 ((l0_2.length : Int) - 1))] rfl qz2 ?_; (with_reducible refine (impl_in.calls a1 0 (wrap64 ((l0_2.length : Int) - 1)) t273 _ A3.out).mono ?_); rintro e w' ⟨rfl, ⟨nd, rfl⟩⟩; refine ⟨_, rfl, ?_⟩))
 go_ret
 exact ⟨qzw, qz1⟩

/-! ### impl_KindAt: function 75 -/
def impl_KindAt.f (k : Nat) (a0_0 : Int) (a0_1 : Int) (l0_2 : List Int) (a1 : Int) : Option (Int) := (impl_FloorOk.f k a0_0 a0_1 l0_2).bind fun t275 => (if t275 = true then ((impl_isCell.f a0_0 a0_1 l0_2 a1).bind fun t276 => (if t276 = true then (if 0 ≤ a1 then (if a1 < (l0_2.length : Int) then (some (rd l0_2 a1)) else (none)) else (none)) else (some 0))) else (some 0))
theorem impl_KindAt.mono : ∀ a0 a1 a2 a3 k, LeO (impl_KindAt.f k a0 a1 a2 a3) (impl_KindAt.f (k + 1) a0 a1 a2 a3) := by
 intro a0 a1 a2 a3 k
 unfold impl_KindAt.f
 have j0 := @impl_FloorOk.mono
 exact qL
theorem impl_KindAt.calls (k : Nat) (a0_0 : Int) (a0_1 : Int) (A0_2 : Option Addr) (c0_2 : Nat) (l0_2 : List Int) (a1 : Int) (r : Int) (w : World) (hr0_2 : Kd.C (Kd.int .i64) w A0_2 l0_2.length l0_2) (hc0_2 : l0_2.length ≤ c0_2) (h : impl_KindAt.f k a0_0 a0_1 l0_2 a1 = some r) :
  Calls Try.prog 75 #[.agg #[.int .i64 a0_0, .int .i64 a0_1, .slice A0_2 l0_2.length c0_2], .int .i64 a1] w fun e w' => e = .returned (.int .i64 r) ∧ Below w.heap.size w w' := by
 have hu43 := Try.underlying43
 have HR0_2 := aM hr0_2
 have HC0_2 := aM hc0_2
 clear hr0_2 hc0_2
 have HB := aM (Below.refl w.heap.size w)
 unfold impl_KindAt.f at h
 have H := h
 clear h
 replace H := Option.bind_eq_some_iff.mp H
 obtain ⟨t275, A30, H⟩ := H
 have A3 := aM A30
 clear A30
 replace H := iB_ H
 rcases H with ⟨rfl, H⟩ | ⟨rfl, H⟩
 {
 replace H := Option.bind_eq_some_iff.mp H
 obtain ⟨t276, A50, H⟩ := H
 have A5 := aM A50
 clear A50
 replace H := iB_ H
 rcases H with ⟨rfl, H⟩ | ⟨rfl, H⟩
 {
 replace H := iD_ H
 obtain ⟨c7b0, H⟩ := H
 replace H := iD_ H
 obtain ⟨c8b0, H⟩ := H
 obtain rfl := Option.some.inj H
 go_enter Try.func75, Try.ntmps75
 go_wp2_with (first | ((with_reducible refine gate_dst (N := 2) rfl ?_); refine bx_ 2 #[.int .i64 a0_0, .int .i64 a0_1, .slice A0_2 l0_2.length c0_2] 43 ?_; intro gb274 hg w9 hbox hb; have BK274 := aM (hbox); have GW274 := aM (bz_ w hg qz1); have GE274 := GW274; replace HB := bS_ hb; clear hb hbox hg; obtain ⟨hcz10_0, hcz10_1, hcz10_2, hfz10_0, hfz10_1, hfz10_2⟩ := b6_ BK274.out) | ((with_reducible refine gate_callee (f := 64) rfl ?_); refine goesL_ (some 6) rfl rfl Try.func64 (by kernel_rfl) rfl #[.agg #[.int .i64 a0_0, .int .i64 a0_1, .slice A0_2 l0_2.length c0_2]] rfl qz2 ?_; (with_reducible refine (impl_FloorOk.calls k a0_0 a0_1 _ _ l0_2 true _ ?_ ?_ A3.out).mono ?_); exact qz6; exact qz28; rintro e w11 ⟨rfl, hb⟩; refine ⟨_, rfl, ?_⟩; replace BK274 := bB_ BK274 hb; replace HB := bS_ hb; (try clear hb); obtain ⟨hcz12_0, hcz12_1, hcz12_2, hfz12_0, hfz12_1, hfz12_2⟩ := b6_ BK274.out) | (go_at_call 74; (with_reducible refine (impl_isCell.calls a0_0 a0_1 _ _ l0_2 a1 true _ ?_ ?_ A5.out).mono ?_); exact qz6; exact qz28; rintro e w13 ⟨rfl, hb⟩; replace BK274 := bB_ BK274 hb; replace HB := bS_ hb; (try clear hb); obtain ⟨hcz14_0, hcz14_1, hcz14_2, hfz14_0, hfz14_1, hfz14_2⟩ := b6_ BK274.out; have p277 : 0 ≤ (a1 : Int) := dt_; have q277 : a1 < (l0_2.length : Int) := dt_; obtain ⟨ad277, e277, hx277_0⟩ := Kd.at_int HR0_2.out a1 p277 q277; cases e277; replace hx277_0 := cB_ hx277_0; replace p277 := eq_true p277; replace q277 := eq_true q277))
 go_ret
 exact ⟨qzw, qz1⟩
 }
 {
 obtain rfl := Option.some.inj H
 go_enter Try.func75, Try.ntmps75
 go_wp2_with (first | ((with_reducible refine gate_dst (N := 2) rfl ?_); refine bx_ 2 #[.int .i64 a0_0, .int .i64 a0_1, .slice A0_2 l0_2.length c0_2] 43 ?_; intro gb274 hg w15 hbox hb; have BK274 := aM (hbox); have GW274 := aM (bz_ w hg qz1); have GE274 := GW274; replace HB := bS_ hb; clear hb hbox hg; obtain ⟨hcz16_0, hcz16_1, hcz16_2, hfz16_0, hfz16_1, hfz16_2⟩ := b6_ BK274.out) | ((with_reducible refine gate_callee (f := 64) rfl ?_); refine goesL_ (some 6) rfl rfl Try.func64 (by kernel_rfl) rfl #[.agg #[.int .i64 a0_0, .int .i64 a0_1, .slice A0_2 l0_2.length c0_2]] rfl qz2 ?_; (with_reducible refine (impl_FloorOk.calls k a0_0 a0_1 _ _ l0_2 true _ ?_ ?_ A3.out).mono ?_); exact qz6; exact qz28; rintro e w17 ⟨rfl, hb⟩; refine ⟨_, rfl, ?_⟩; replace BK274 := bB_ BK274 hb; replace HB := bS_ hb; (try clear hb); obtain ⟨hcz18_0, hcz18_1, hcz18_2, hfz18_0, hfz18_1, hfz18_2⟩ := b6_ BK274.out) | (go_at_call 74; (with_reducible refine (impl_isCell.calls a0_0 a0_1 _ _ l0_2 a1 false _ ?_ ?_ A5.out).mono ?_); exact qz6; exact qz28; rintro e w19 ⟨rfl, hb⟩; replace BK274 := bB_ BK274 hb; replace HB := bS_ hb; (try clear hb)))
 go_ret
 exact ⟨qzw, qz1⟩
 }
 }
 {
 obtain rfl := Option.some.inj H
 go_enter Try.func75, Try.ntmps75
 go_wp2_with (first | ((with_reducible refine gate_dst (N := 2) rfl ?_); refine bx_ 2 #[.int .i64 a0_0, .int .i64 a0_1, .slice A0_2 l0_2.length c0_2] 43 ?_; intro gb274 hg w20 hbox hb; have BK274 := aM (hbox); have GW274 := aM (bz_ w hg qz1); have GE274 := GW274; replace HB := bS_ hb; clear hb hbox hg; obtain ⟨hcz21_0, hcz21_1, hcz21_2, hfz21_0, hfz21_1, hfz21_2⟩ := b6_ BK274.out) | ((with_reducible refine gate_callee (f := 64) rfl ?_); refine goesL_ (some 6) rfl rfl Try.func64 (by kernel_rfl) rfl #[.agg #[.int .i64 a0_0, .int .i64 a0_1, .slice A0_2 l0_2.length c0_2]] rfl qz2 ?_; (with_reducible refine (impl_FloorOk.calls k a0_0 a0_1 _ _ l0_2 false _ ?_ ?_ A3.out).mono ?_); exact qz6; exact qz28; rintro e w22 ⟨rfl, hb⟩; refine ⟨_, rfl, ?_⟩; replace BK274 := bB_ BK274 hb; replace HB := bS_ hb; (try clear hb)))
 go_ret
 exact ⟨qzw, qz1⟩
 }
/-! ### impl_standsOk: function 65 -/
def impl_standsOk.f (k : Nat) (a0_0 : Int) (a0_1 : Int) (l0_2 : List Int) (a1_0 : Int) (a1_1 : Int) (a1_2 : Int) (a1_3 : Bool) (a1_4 : Int) : Option (Bool) := (impl_KindAt.f k a0_0 a0_1 l0_2 a1_1).bind fun t280 => (if t280 = 0 then (some false) else (if a1_2 = (-1) then (some true) else ((impl_KindAt.f k a0_0 a0_1 l0_2 a1_2).bind fun t281 => (some (t281 != 0)))))
theorem impl_standsOk.mono : ∀ a0 a1 a2 a3 a4 a5 a6 a7 k, LeO (impl_standsOk.f k a0 a1 a2 a3 a4 a5 a6 a7) (impl_standsOk.f (k + 1) a0 a1 a2 a3 a4 a5 a6 a7) := by
 intro a0 a1 a2 a3 a4 a5 a6 a7 k
 unfold impl_standsOk.f
 have j0 := @impl_KindAt.mono
 exact qL
theorem impl_standsOk.calls (k : Nat) (a0_0 : Int) (a0_1 : Int) (A0_2 : Option Addr) (c0_2 : Nat) (l0_2 : List Int) (a1_0 : Int) (a1_1 : Int) (a1_2 : Int) (a1_3 : Bool) (a1_4 : Int) (r : Bool) (w : World) (hr0_2 : Kd.C (Kd.int .i64) w A0_2 l0_2.length l0_2) (hc0_2 : l0_2.length ≤ c0_2) (h : impl_standsOk.f k a0_0 a0_1 l0_2 a1_0 a1_1 a1_2 a1_3 a1_4 = some r) :
  Calls Try.prog 65 #[.agg #[.int .i64 a0_0, .int .i64 a0_1, .slice A0_2 l0_2.length c0_2], .agg #[.int .i64 a1_0, .int .i64 a1_1, .int .i64 a1_2, .bool a1_3, .int .i64 a1_4]] w fun e w' => e = .returned (.bool r) ∧ Below w.heap.size w w' := by
 have hu43 := Try.underlying43
 have hu37 := Try.underlying37
 have HR0_2 := aM hr0_2
 have HC0_2 := aM hc0_2
 clear hr0_2 hc0_2
 have HB := aM (Below.refl w.heap.size w)
 unfold impl_standsOk.f at h
 have H := h
 clear h
 replace H := Option.bind_eq_some_iff.mp H
 obtain ⟨t280, A30, H⟩ := H
 have A3 := aM A30
 clear A30
 replace H := iQ_ H
 rcases H with ⟨c4b0, c4b1, H⟩ | ⟨c4, c4b0, c4b1, H⟩
 {
 obtain rfl := Option.some.inj H
 go_enter Try.func65, Try.ntmps65
 go_wp2_with (first | ((with_reducible refine gate_dst (N := 2) rfl ?_); refine bx_ 2 #[.int .i64 a0_0, .int .i64 a0_1, .slice A0_2 l0_2.length c0_2] 43 ?_; intro gb278 hg w5 hbox hb; have BK278 := aM (hbox); have GW278 := aM (bz_ w hg qz1); have GE278 := GW278; replace HB := bS_ hb; clear hb hbox hg) | ((with_reducible refine gate_dst (N := 3) rfl ?_); refine bx_ 3 #[.int .i64 a1_0, .int .i64 a1_1, .int .i64 a1_2, .bool a1_3, .int .i64 a1_4] 37 ?_; intro gb279 hg w6 hbox hb; have BK279 := aM (hbox); have GW279 := aM (bz_ w hg qz1); have GE279 := GW279; replace HB := bS_ hb; obtain ⟨NB278_279, NB279_278⟩ := nb_ hg (bk_ BK278.out); replace BK278 := bB_ BK278 hb; clear hb hbox hg; have hnb7 := NB278_279.out; have hnc7 := NB279_278.out; obtain ⟨hcz8_0, hcz8_1, hcz8_2, hfz8_0, hfz8_1, hfz8_2⟩ := b6_ BK278.out; obtain ⟨hcz9_0, hcz9_1, hcz9_2, hcz9_3, hcz9_4, hfz9_0, hfz9_1, hfz9_2, hfz9_3, hfz9_4⟩ := b10_ BK279.out) | ((with_reducible refine gate_callee (f := 75) rfl ?_); refine goesL_ (some 8) rfl rfl Try.func75 (by kernel_rfl) rfl #[.agg #[.int .i64 a0_0, .int .i64 a0_1, .slice A0_2 l0_2.length c0_2], .int .i64 a1_1] rfl qz2 ?_; (with_reducible refine (impl_KindAt.calls k a0_0 a0_1 _ _ l0_2 a1_1 t280 _ ?_ ?_ A3.out).mono ?_); exact qz6; exact qz28; rintro e w10 ⟨rfl, hb⟩; refine ⟨_, rfl, ?_⟩; replace BK278 := bB_ BK278 hb; replace BK279 := bB_ BK279 hb; replace HB := bS_ hb; (try clear hb)))
 go_ret
 exact ⟨qzw, qz1⟩
 }
 {
 replace H := iQ_ H
 rcases H with ⟨c11b0, c11b1, H⟩ | ⟨c11, c11b0, c11b1, H⟩
 {
 obtain rfl := Option.some.inj H
 go_enter Try.func65, Try.ntmps65
 go_wp2_with (first | ((with_reducible refine gate_dst (N := 2) rfl ?_); refine bx_ 2 #[.int .i64 a0_0, .int .i64 a0_1, .slice A0_2 l0_2.length c0_2] 43 ?_; intro gb278 hg w12 hbox hb; have BK278 := aM (hbox); have GW278 := aM (bz_ w hg qz1); have GE278 := GW278; replace HB := bS_ hb; clear hb hbox hg) | ((with_reducible refine gate_dst (N := 3) rfl ?_); refine bx_ 3 #[.int .i64 a1_0, .int .i64 a1_1, .int .i64 a1_2, .bool a1_3, .int .i64 a1_4] 37 ?_; intro gb279 hg w13 hbox hb; have BK279 := aM (hbox); have GW279 := aM (bz_ w hg qz1); have GE279 := GW279; replace HB := bS_ hb; obtain ⟨NB278_279, NB279_278⟩ := nb_ hg (bk_ BK278.out); replace BK278 := bB_ BK278 hb; clear hb hbox hg; have hnb14 := NB278_279.out; have hnc14 := NB279_278.out; obtain ⟨hcz15_0, hcz15_1, hcz15_2, hfz15_0, hfz15_1, hfz15_2⟩ := b6_ BK278.out; obtain ⟨hcz16_0, hcz16_1, hcz16_2, hcz16_3, hcz16_4, hfz16_0, hfz16_1, hfz16_2, hfz16_3, hfz16_4⟩ := b10_ BK279.out) | ((with_reducible refine gate_callee (f := 75) rfl ?_); refine goesL_ (some 8) rfl rfl Try.func75 (by kernel_rfl) rfl #[.agg #[.int .i64 a0_0, .int .i64 a0_1, .slice A0_2 l0_2.length c0_2], .int .i64 a1_1] rfl qz2 ?_; (with_reducible refine (impl_KindAt.calls k a0_0 a0_1 _ _ l0_2 a1_1 t280 _ ?_ ?_ A3.out).mono ?_); exact qz6; exact qz28; rintro e w17 ⟨rfl, hb⟩; refine ⟨_, rfl, ?_⟩; replace BK278 := bB_ BK278 hb; replace BK279 := bB_ BK279 hb; replace HB := bS_ hb; (try clear hb); obtain ⟨hcz18_0, hcz18_1, hcz18_2, hcz18_3, hcz18_4, hfz18_0, hfz18_1, hfz18_2, hfz18_3, hfz18_4⟩ := b10_ BK279.out))
 go_ret
 exact ⟨qzw, qz1⟩
 }
 {
 replace H := Option.bind_eq_some_iff.mp H
 obtain ⟨t281, A190, H⟩ := H
 have A19 := aM A190
 clear A190
 obtain rfl := Option.some.inj H
 go_enter Try.func65, Try.ntmps65
 go_wp2_with (first | ((with_reducible refine gate_dst (N := 2) rfl ?_); refine bx_ 2 #[.int .i64 a0_0, .int .i64 a0_1, .slice A0_2 l0_2.length c0_2] 43 ?_; intro gb278 hg w20 hbox hb; have BK278 := aM (hbox); have GW278 := aM (bz_ w hg qz1); have GE278 := GW278; replace HB := bS_ hb; clear hb hbox hg) | ((with_reducible refine gate_dst (N := 3) rfl ?_); refine bx_ 3 #[.int .i64 a1_0, .int .i64 a1_1, .int .i64 a1_2, .bool a1_3, .int .i64 a1_4] 37 ?_; intro gb279 hg w21 hbox hb; have BK279 := aM (hbox); have GW279 := aM (bz_ w hg qz1); have GE279 := GW279; replace HB := bS_ hb; obtain ⟨NB278_279, NB279_278⟩ := nb_ hg (bk_ BK278.out); replace BK278 := bB_ BK278 hb; clear hb hbox hg; have hnb22 := NB278_279.out; have hnc22 := NB279_278.out; obtain ⟨hcz23_0, hcz23_1, hcz23_2, hfz23_0, hfz23_1, hfz23_2⟩ := b6_ BK278.out; obtain ⟨hcz24_0, hcz24_1, hcz24_2, hcz24_3, hcz24_4, hfz24_0, hfz24_1, hfz24_2, hfz24_3, hfz24_4⟩ := b10_ BK279.out) | ((with_reducible refine gate_callee (f := 75) rfl ?_); refine goesL_ (some 8) rfl rfl Try.func75 (by kernel_rfl) rfl #[.agg #[.int .i64 a0_0, .int .i64 a0_1, .slice A0_2 l0_2.length c0_2], .int .i64 a1_1] rfl qz2 ?_; (with_reducible refine (impl_KindAt.calls k a0_0 a0_1 _ _ l0_2 a1_1 t280 _ ?_ ?_ A3.out).mono ?_); exact qz6; exact qz28; rintro e w25 ⟨rfl, hb⟩; refine ⟨_, rfl, ?_⟩; replace BK278 := bB_ BK278 hb; replace BK279 := bB_ BK279 hb; replace HB := bS_ hb; (try clear hb); obtain ⟨hcz26_0, hcz26_1, hcz26_2, hcz26_3, hcz26_4, hfz26_0, hfz26_1, hfz26_2, hfz26_3, hfz26_4⟩ := b10_ BK279.out; obtain ⟨hcz27_0, hcz27_1, hcz27_2, hfz27_0, hfz27_1, hfz27_2⟩ := b6_ BK278.out) | (go_at_call 75; (with_reducible refine (impl_KindAt.calls k a0_0 a0_1 _ _ l0_2 a1_2 t281 _ ?_ ?_ A19.out).mono ?_); exact qz6; exact qz28; rintro e w28 ⟨rfl, hb⟩; replace BK278 := bB_ BK278 hb; replace BK279 := bB_ BK279 hb; replace HB := bS_ hb; (try clear hb)))
 go_ret
 exact ⟨qzw, qz1⟩
 }
 }
/-! ### impl_beside: function 68 -/
mutual
def impl_beside.j0 : Nat → Int → List Int → Int → Int → Int → Int → List Int → Option (List Int)
 | 0, _, _, _, _, _, _, _ => none
 | k + 1, x1, x5, x6, x7, x283000, x283001, x283002 => if x6 > 0 then (if x5.length < 17592186044416 then (impl_beside.j1 k x1 (x5 ++ [wrap64 (x1 - 1)]) x6 x7 x283000 x283001 x283002) else (none)) else (impl_beside.j1 k x1 x5 x6 x7 x283000 x283001 x283002)
def impl_beside.j1 : Nat → Int → List Int → Int → Int → Int → Int → List Int → Option (List Int)
 | 0, _, _, _, _, _, _, _ => none
 | k + 1, x1, x5, x6, x7, x283000, x283001, x283002 => if x6 < (wrap64 (x283000 - 1)) then (if x5.length < 17592186044416 then ((some (x5 ++ [wrap64 (x1 + 1)] : List Int)).bind fun y289 => (if x7 < (wrap64 (x283001 - 1)) then (if y289.length < 17592186044416 then (some (y289 ++ [wrap64 (x1 + x283000)])) else (none)) else (some y289))) else (none)) else (if x7 < (wrap64 (x283001 - 1)) then (if x5.length < 17592186044416 then (some (x5 ++ [wrap64 (x1 + x283000)])) else (none)) else (some x5))
end
def impl_beside.f (k : Nat) (a0_0 : Int) (a0_1 : Int) (l0_2 : List Int) (a1 : Int) : Option (List Int) := if a0_0 = 0 then (none) else (if (wrap64 (Int.tdiv a1 a0_0)) > 0 then (if ([] : List Int).length < 17592186044416 then (impl_beside.j0 k a1 (([] : List Int) ++ [wrap64 (a1 - a0_0)]) (Int.tmod a1 a0_0) (wrap64 (Int.tdiv a1 a0_0)) a0_0 a0_1 l0_2) else (none)) else (impl_beside.j0 k a1 ([] : List Int) (Int.tmod a1 a0_0) (wrap64 (Int.tdiv a1 a0_0)) a0_0 a0_1 l0_2))
theorem impl_beside.mono_l : ∀ k, (∀ y0 y1 y2 y3 y4 y5 y6, LeO (impl_beside.j0 k y0 y1 y2 y3 y4 y5 y6) (impl_beside.j0 (k + 1) y0 y1 y2 y3 y4 y5 y6)) ∧ (∀ y0 y1 y2 y3 y4 y5 y6, LeO (impl_beside.j1 k y0 y1 y2 y3 y4 y5 y6) (impl_beside.j1 (k + 1) y0 y1 y2 y3 y4 y5 y6))
 | 0 => ⟨fun _ _ _ _ _ _ _ r h => by simp [impl_beside.j0] at h, fun _ _ _ _ _ _ _ r h => by simp [impl_beside.j1] at h⟩
 | k + 1 => by
  obtain ⟨ih0, ih1⟩ := impl_beside.mono_l k
  refine ⟨?_, ?_⟩
  {
  intro y0 y1 y2 y3 y4 y5 y6
  unfold impl_beside.j0
  exact qL
  }
  {
  intro y0 y1 y2 y3 y4 y5 y6
  unfold impl_beside.j1
  exact qL
  }
theorem impl_beside.mono : ∀ a0 a1 a2 a3 k, LeO (impl_beside.f k a0 a1 a2 a3) (impl_beside.f (k + 1) a0 a1 a2 a3) := by
 intro a0 a1 a2 a3 k
 obtain ⟨ih0, ih1⟩ := impl_beside.mono_l k
 unfold impl_beside.f
 exact qL
theorem impl_beside.calls (k : Nat) (a0_0 : Int) (a0_1 : Int) (A0_2 : Option Addr) (c0_2 : Nat) (l0_2 : List Int) (a1 : Int) (r : List Int) (w : World) (hr0_2 : Kd.C (Kd.int .i64) w A0_2 l0_2.length l0_2) (hc0_2 : l0_2.length ≤ c0_2) (h : impl_beside.f k a0_0 a0_1 l0_2 a1 = some r) :
  Calls Try.prog 68 #[.agg #[.int .i64 a0_0, .int .i64 a0_1, .slice A0_2 l0_2.length c0_2], .int .i64 a1] w fun e w' => ∃ v0_ : Value, e = .returned (v0_) ∧ Kd.R (Kd.int .i64) 3 w' w.heap.size (fun _ => True) v0_ r ∧ Below w.heap.size w w' := by
 have hu43 := Try.underlying43
 have HR0_2 := aM hr0_2
 have HC0_2 := aM hc0_2
 clear hr0_2 hc0_2
 have HB := aM (Below.refl w.heap.size w)
 unfold impl_beside.f at h
 have H := h
 clear h
 by_cases c3 : a0_0 = 0
 {
 exact ap_ c3 H
 }
 {
 rw [if_neg c3] at H
 have c3b0 := beq_eq_false_iff_ne.mpr c3
 have c3b1 := bne_iff_ne.mpr c3
 have HC4 := aM H
 clear H
 go_enter Try.func68, Try.ntmps68
 go_upto_if 17 with (first | ((with_reducible refine gate_dst (N := 2) rfl ?_); refine bx_ 2 #[.int .i64 a0_0, .int .i64 a0_1, .slice A0_2 l0_2.length c0_2] 43 ?_; intro gb282 hg w5 hbox hb; have BK282 := aM (hbox); have GW282 := aM (bz_ w hg qz1); have GE282 := GW282; replace HB := bS_ hb; clear hb hbox hg; obtain ⟨hcz6_0, hcz6_1, hcz6_2, hfz6_0, hfz6_1, hfz6_2⟩ := b6_ BK282.out))
 repeat (go_quiet (first | ((with_reducible refine gate_dst (N := 2) rfl ?_); refine bx_ 2 #[.int .i64 a0_0, .int .i64 a0_1, .slice A0_2 l0_2.length c0_2] 43 ?_; intro gb282 hg w5 hbox hb; have BK282 := aM (hbox); have GW282 := aM (bz_ w hg qz1); have GE282 := GW282; replace HB := bS_ hb; clear hb hbox hg; obtain ⟨hcz6_0, hcz6_1, hcz6_2, hfz6_0, hfz6_1, hfz6_2⟩ := b6_ BK282.out)); go_upto_if 17 with (first | ((with_reducible refine gate_dst (N := 2) rfl ?_); refine bx_ 2 #[.int .i64 a0_0, .int .i64 a0_1, .slice A0_2 l0_2.length c0_2] 43 ?_; intro gb282 hg w5 hbox hb; have BK282 := aM (hbox); have GW282 := aM (bz_ w hg qz1); have GE282 := GW282; replace HB := bS_ hb; clear hb hbox hg; obtain ⟨hcz6_0, hcz6_1, hcz6_2, hfz6_0, hfz6_1, hfz6_2⟩ := b6_ BK282.out)))
 (try simp only [Act.put, List.setIfInBounds_toArray, List.set_cons_zero, List.set_cons_succ])
 go_cut [5] (fun v5 wc => ∃ (kq : Nat) (x5_3 : List Int), Aside0 (impl_beside.j0 kq a1 x5_3 (Int.tmod a1 a0_0) (wrap64 (Int.tdiv a1 a0_0)) a0_0 a0_1 l0_2 = some r) ∧ Aside0 (kq ≤ k) ∧ Aside0 (Kd.R (Kd.int .i64) 3 wc w.heap.size (fun _ => True) v5 x5_3) ∧ Aside0 (wc.heap[gb282]? = some (.cells #[.int .i64 a0_0, .int .i64 a0_1, (.slice A0_2 l0_2.length c0_2)] 43 (0, 0))) ∧ Aside0 (Below w.heap.size w wc))
 case first =>
  have H := HC4.out
  clear HC4
  replace H := iE_ H
  rcases H with ⟨c7b0, H⟩ | ⟨c7b0, H⟩
  {
  (first | rw [c7b0] | (simp only [i64_w, i32_w]; rw [c7b0]) | rw [@decide_eq_true _ _ (of_decide_eq_true c7b0)] | rw [@decide_eq_true _ _ (of_decide_eq_true c7b1)] | skip)
  replace H := iN_ H
  obtain ⟨c8, H⟩ := H
  have LMc8 := aM c8
  clear c8
  obtain ⟨y283, hy283⟩ : ∃ y_ : List Int, y_ = (([] : List Int) ++ [wrap64 (a1 - a0_0)]) := ⟨_, rfl⟩
  replace H : (impl_beside.j0 k a1 y283 (Int.tmod a1 a0_0) (wrap64 (Int.tdiv a1 a0_0)) a0_0 a0_1 l0_2) = some r := by first | (rw [hy283]; exact H) | exact H
  have Ny283 := aM hy283
  clear hy283
  have H' := aM H
  clear H
  obtain ⟨hcz9_0, hcz9_1, hcz9_2, hfz9_0, hfz9_1, hfz9_2⟩ := b6_ BK282.out
  go_wp2_with (first | ((with_reducible refine gate_builtin (b := .append) (xs := #[.tmp 18, .tmp 23]) rfl ?_); at_builtin; refine Kd.R_append (Kd.int .i64) (w0 := w) w.heap.size rfl (.tmp 18) (.tmp 23) 24 3 (.int .i64 0) 8 rfl Try.underlying24 info3 rfl (by decide) (by omega) (.slice none 0 0) ([] : List Int) (wrap64 (a1 - a0_0)) [.int .i64 (wrap64 (a1 - a0_0))] (fun _ => True) (fun _ => False) rfl rfl ?aP (fun _ hk => hk.elim) ?aF ?aO ?aB ?aS ?aL ?_; (case aP => exact rfl); (case aB => exact qz1); (case aF => exact qz21); (case aO => exact ((Kd.R_nil _ _ _ _ (fun _ => True)))); (case aS => exact qz32); (case aL => have := LMc8.out; omega); intro v284 w10 ho hb hg hat; rw [← Ny283.out] at ho; replace BK282 := aM (blk_grown (bk_ BK282.out) hg (by simp [Value.ownBlock])); replace HB := aM (hb); have HO285 := aM (ho); clear ho hb hg hat) | go_quiet (fail))
  go_meet
  case rel => exact ⟨_, (y283), H', ⟨by first | omega | exact Nat.le_refl _⟩, ⟨rm_ HO285.out⟩, ⟨bk_ BK282.out⟩, ⟨qz1⟩⟩
  }
  {
  (first | rw [c7b0] | (simp only [i64_w, i32_w]; rw [c7b0]) | rw [@decide_eq_false _ _ (of_decide_eq_false c7b0)] | rw [@decide_eq_false _ _ (of_decide_eq_false c7b1)] | skip)
  have H' := aM H
  clear H
  go_wp2
  repeat (go_quiet (fail); try go_wp2)
  go_meet
  case rel => exact ⟨_, (([] : List Int)), H', ⟨by first | omega | exact Nat.le_refl _⟩, ⟨by first | exact Kd.R_nil _ _ _ _ _ | exact Kd.N_nil _ _ _ _ _ | exact Kd.V_nil _ _ _ _ _ | exact Kd.Q_nil _ _ _ _ _ | exact Kd.S_nil _ _ _ _ _⟩, ⟨bk_ BK282.out⟩, ⟨qz1⟩⟩
  }
 case rest =>
 clear HC4
 try clear c3
 try clear c3b0
 try clear c3b1
 try clear hcz6_0 hcz6_1 hcz6_2 hfz6_0 hfz6_1 hfz6_2
 obtain ⟨kq, x5_3, HA, HJ3, HO_5, BK282, HB⟩ := hcut
 cases kq with
 | zero => exact absurd HA.out (by simp [impl_beside.j0])
 | succ kj3 =>
 have H := HA.out
 clear HA
 simp only [impl_beside.j0] at H
 have HC11 := aM H
 clear H
 go_upto_if 26 with (fail)
 repeat (go_quiet (fail); go_upto_if 26 with (fail))
 go_cut [5] (fun v5 wc => ∃ (kq : Nat) (x5_10 : List Int), Aside0 (impl_beside.j1 kq a1 x5_10 (Int.tmod a1 a0_0) (wrap64 (Int.tdiv a1 a0_0)) a0_0 a0_1 l0_2 = some r) ∧ Aside0 (kq ≤ kj3) ∧ Aside0 (Kd.R (Kd.int .i64) 3 wc w.heap.size (fun _ => True) v5 x5_10) ∧ Aside0 (wc.heap[gb282]? = some (.cells #[.int .i64 a0_0, .int .i64 a0_1, (.slice A0_2 l0_2.length c0_2)] 43 (0, 0))) ∧ Aside0 (Below w.heap.size w wc))
 case first =>
  have H := HC11.out
  clear HC11
  replace H := iE_ H
  rcases H with ⟨c12b0, H⟩ | ⟨c12b0, H⟩
  {
  (first | rw [c12b0] | (simp only [i64_w, i32_w]; rw [c12b0]) | rw [@decide_eq_true _ _ (of_decide_eq_true c12b0)] | rw [@decide_eq_true _ _ (of_decide_eq_true c12b1)] | skip)
  replace H := iN_ H
  obtain ⟨c13, H⟩ := H
  have LMc13 := aM c13
  clear c13
  obtain ⟨y286, hy286⟩ : ∃ y_ : List Int, y_ = (x5_3 ++ [wrap64 (a1 - 1)]) := ⟨_, rfl⟩
  replace H : (impl_beside.j1 kj3 a1 y286 (Int.tmod a1 a0_0) (wrap64 (Int.tdiv a1 a0_0)) a0_0 a0_1 l0_2) = some r := by first | (rw [hy286]; exact H) | exact H
  have Ny286 := aM hy286
  clear hy286
  have H' := aM H
  clear H
  go_wp2_with (first | ((with_reducible refine gate_builtin (b := .append) (xs := #[.tmp 27, .tmp 30]) rfl ?_); at_builtin; refine Kd.R_append (Kd.int .i64) (w0 := w) w.heap.size rfl (.tmp 27) (.tmp 30) 24 3 (.int .i64 0) 8 rfl Try.underlying24 info3 rfl (by decide) (by omega) u5 x5_3 (wrap64 (a1 - 1)) [.int .i64 (wrap64 (a1 - 1))] (fun _ => True) (fun _ => False) rfl rfl ?aP (fun _ hk => hk.elim) ?aF ?aO ?aB ?aS ?aL ?_; (case aP => exact rfl); (case aB => exact qz1); (case aF => exact qz21); (case aO => exact (rr_ HO_5.out)); (case aS => exact qz32); (case aL => have := LMc13.out; omega); intro v287 w14 ho hb hg hat; rw [← Ny286.out] at ho; replace BK282 := aM (blk_grown (bk_ BK282.out) hg (Kd.R_ne HO_5.out BK282.out (by decide))); replace HB := aM (hb); have HO288 := aM (ho); clear HO_5; clear ho hb hg hat) | go_quiet (fail))
  go_meet
  case rel => exact ⟨_, (y286), H', ⟨by have := HJ3.out; first | omega | exact Nat.le_refl _⟩, ⟨rm_ HO288.out⟩, ⟨bk_ BK282.out⟩, ⟨qz1⟩⟩
  }
  {
  (first | rw [c12b0] | (simp only [i64_w, i32_w]; rw [c12b0]) | rw [@decide_eq_false _ _ (of_decide_eq_false c12b0)] | rw [@decide_eq_false _ _ (of_decide_eq_false c12b1)] | skip)
  have H' := aM H
  clear H
  go_wp2
  repeat (go_quiet (fail); try go_wp2)
  go_meet
  case rel => exact ⟨_, (x5_3), H', ⟨by have := HJ3.out; first | omega | exact Nat.le_refl _⟩, ⟨rm_ HO_5.out⟩, ⟨bk_ BK282.out⟩, ⟨qz1⟩⟩
  }
 case rest =>
 clear HC11
 try clear c3
 try clear c3b0
 try clear c3b1
 try clear hcz6_0 hcz6_1 hcz6_2 hfz6_0 hfz6_1 hfz6_2
 obtain ⟨kq, x5_10, HA, HJ10, HO_5, BK282, HB⟩ := hcut
 cases kq with
 | zero => exact absurd HA.out (by simp [impl_beside.j1])
 | succ kj10 =>
 have H := HA.out
 clear HA
 simp only [impl_beside.j1] at H
 replace H := iE_ H
 rcases H with ⟨c15b0, H⟩ | ⟨c15b0, H⟩
 {
 replace H := iN_ H
 obtain ⟨c16, H⟩ := H
 have LMc16 := aM c16
 clear c16
 obtain ⟨y289, hy289⟩ : ∃ y_ : List Int, y_ = (x5_10 ++ [wrap64 (a1 + 1)]) := ⟨_, rfl⟩
 replace H := yB_ hy289 H
 have Ny289 := aM hy289
 clear hy289
 replace H := iE_ H
 rcases H with ⟨c17b0, H⟩ | ⟨c17b0, H⟩
 {
 replace H := iN_ H
 obtain ⟨c18, H⟩ := H
 have LMc18 := aM c18
 clear c18
 obtain ⟨y292, hy292⟩ : ∃ y_ : List Int, y_ = (y289 ++ [wrap64 (a1 + a0_0)]) := ⟨_, rfl⟩
 replace H : (some y292) = some r := by first | (rw [hy292]; exact H) | exact H
 have Ny292 := aM hy292
 clear hy292
 obtain rfl := Option.some.inj H
 obtain ⟨hcz19_0, hcz19_1, hcz19_2, hfz19_0, hfz19_1, hfz19_2⟩ := b6_ BK282.out
 go_wp2_with (first | ((with_reducible refine gate_builtin (b := .append) (xs := #[.tmp 37, .tmp 40]) rfl ?_); at_builtin; refine Kd.R_append (Kd.int .i64) (w0 := w) w.heap.size rfl (.tmp 37) (.tmp 40) 24 3 (.int .i64 0) 8 rfl Try.underlying24 info3 rfl (by decide) (by omega) u5 x5_10 (wrap64 (a1 + 1)) [.int .i64 (wrap64 (a1 + 1))] (fun _ => True) (fun _ => False) rfl rfl ?aP (fun _ hk => hk.elim) ?aF ?aO ?aB ?aS ?aL ?_; (case aP => exact rfl); (case aB => exact qz1); (case aF => exact qz21); (case aO => exact (rr_ HO_5.out)); (case aS => exact qz32); (case aL => have := LMc16.out; omega); intro v290 w20 ho hb hg hat; rw [← Ny289.out] at ho; replace BK282 := aM (blk_grown (bk_ BK282.out) hg (Kd.R_ne HO_5.out BK282.out (by decide))); replace HB := aM (hb); have HO291 := aM (ho); clear HO_5; clear ho hb hg hat; obtain ⟨hcz21_0, hcz21_1, hcz21_2, hfz21_0, hfz21_1, hfz21_2⟩ := b6_ BK282.out) | ((with_reducible refine gate_builtin (b := .append) (xs := #[.tmp 47, .tmp 52]) rfl ?_); at_builtin; refine Kd.R_append (Kd.int .i64) (w0 := w) w.heap.size rfl (.tmp 47) (.tmp 52) 24 3 (.int .i64 0) 8 rfl Try.underlying24 info3 rfl (by decide) (by omega) v290 y289 (wrap64 (a1 + a0_0)) [.int .i64 (wrap64 (a1 + a0_0))] (fun _ => True) (fun _ => False) rfl rfl ?aP (fun _ hk => hk.elim) ?aF ?aO ?aB ?aS ?aL ?_; (case aP => exact rfl); (case aB => exact qz1); (case aF => exact qz21); (case aO => exact (rr_ HO291.out)); (case aS => exact qz32); (case aL => have := LMc18.out; omega); intro v293 w22 ho hb hg hat; rw [← Ny292.out] at ho; replace BK282 := aM (blk_grown (bk_ BK282.out) hg (Kd.R_ne HO291.out BK282.out (by decide))); replace HB := aM (hb); have HO294 := aM (ho); clear HO291; clear ho hb hg hat) | go_quiet (fail))
 go_ret
 exact ⟨_, qzw, by (with_reducible repeat (first | apply Kd.R_alloc | apply Kd.R_drewN | apply Kd.R_drew)); exact HO294.out, qz1⟩
 }
 {
 obtain rfl := Option.some.inj H
 obtain ⟨hcz23_0, hcz23_1, hcz23_2, hfz23_0, hfz23_1, hfz23_2⟩ := b6_ BK282.out
 go_wp2_with (first | ((with_reducible refine gate_builtin (b := .append) (xs := #[.tmp 37, .tmp 40]) rfl ?_); at_builtin; refine Kd.R_append (Kd.int .i64) (w0 := w) w.heap.size rfl (.tmp 37) (.tmp 40) 24 3 (.int .i64 0) 8 rfl Try.underlying24 info3 rfl (by decide) (by omega) u5 x5_10 (wrap64 (a1 + 1)) [.int .i64 (wrap64 (a1 + 1))] (fun _ => True) (fun _ => False) rfl rfl ?aP (fun _ hk => hk.elim) ?aF ?aO ?aB ?aS ?aL ?_; (case aP => exact rfl); (case aB => exact qz1); (case aF => exact qz21); (case aO => exact (rr_ HO_5.out)); (case aS => exact qz32); (case aL => have := LMc16.out; omega); intro v290 w24 ho hb hg hat; rw [← Ny289.out] at ho; replace BK282 := aM (blk_grown (bk_ BK282.out) hg (Kd.R_ne HO_5.out BK282.out (by decide))); replace HB := aM (hb); have HO291 := aM (ho); clear HO_5; clear ho hb hg hat; obtain ⟨hcz25_0, hcz25_1, hcz25_2, hfz25_0, hfz25_1, hfz25_2⟩ := b6_ BK282.out) | go_quiet (fail))
 go_ret
 exact ⟨_, qzw, by (with_reducible repeat (first | apply Kd.R_alloc | apply Kd.R_drewN | apply Kd.R_drew)); exact HO291.out, qz1⟩
 }
 }
 {
 replace H := iE_ H
 rcases H with ⟨c26b0, H⟩ | ⟨c26b0, H⟩
 {
 replace H := iN_ H
 obtain ⟨c27, H⟩ := H
 have LMc27 := aM c27
 clear c27
 obtain ⟨y295, hy295⟩ : ∃ y_ : List Int, y_ = (x5_10 ++ [wrap64 (a1 + a0_0)]) := ⟨_, rfl⟩
 replace H : (some y295) = some r := by first | (rw [hy295]; exact H) | exact H
 have Ny295 := aM hy295
 clear hy295
 obtain rfl := Option.some.inj H
 obtain ⟨hcz28_0, hcz28_1, hcz28_2, hfz28_0, hfz28_1, hfz28_2⟩ := b6_ BK282.out
 go_wp2_with (first | ((with_reducible refine gate_builtin (b := .append) (xs := #[.tmp 47, .tmp 52]) rfl ?_); at_builtin; refine Kd.R_append (Kd.int .i64) (w0 := w) w.heap.size rfl (.tmp 47) (.tmp 52) 24 3 (.int .i64 0) 8 rfl Try.underlying24 info3 rfl (by decide) (by omega) u5 x5_10 (wrap64 (a1 + a0_0)) [.int .i64 (wrap64 (a1 + a0_0))] (fun _ => True) (fun _ => False) rfl rfl ?aP (fun _ hk => hk.elim) ?aF ?aO ?aB ?aS ?aL ?_; (case aP => exact rfl); (case aB => exact qz1); (case aF => exact qz21); (case aO => exact (rr_ HO_5.out)); (case aS => exact qz32); (case aL => have := LMc27.out; omega); intro v296 w29 ho hb hg hat; rw [← Ny295.out] at ho; replace BK282 := aM (blk_grown (bk_ BK282.out) hg (Kd.R_ne HO_5.out BK282.out (by decide))); replace HB := aM (hb); have HO297 := aM (ho); clear HO_5; clear ho hb hg hat) | go_quiet (fail))
 go_ret
 exact ⟨_, qzw, by (with_reducible repeat (first | apply Kd.R_alloc | apply Kd.R_drewN | apply Kd.R_drew)); exact HO297.out, qz1⟩
 }
 {
 obtain rfl := Option.some.inj H
 obtain ⟨hcz30_0, hcz30_1, hcz30_2, hfz30_0, hfz30_1, hfz30_2⟩ := b6_ BK282.out
 go_wp2
 repeat (go_quiet (fail); try go_wp2)
 go_ret
 exact ⟨_, qzw, by (with_reducible repeat (first | apply Kd.R_alloc | apply Kd.R_drewN | apply Kd.R_drew)); exact HO_5.out, qz1⟩
 }
 }
 }
/-! ### impl_near: function 66 -/
def impl_near.l0 : Nat → Bool → List Int → List Int → Int → Int → Int → Int → List Int → Option (List Int)
 | 0, _, _, _, _, _, _, _, _ => none
 | k + 1, x2, x7, x13, x14, x15, x299000, x299001, x299002 => if x15 < x14 then (if 0 ≤ x15 then (if x15 < (x13.length : Int) then (if 0 ≤ (rd x13 x15) then (if (rd x13 x15) < (x299002.length : Int) then (if (rd x299002 (rd x13 x15)) = 0 then (impl_near.l0 k x2 x7 x13 x14 (wrap64 (x15 + 1)) x299000 x299001 x299002) else (if x2 = true then (if (rd x299002 (rd x13 x15)) = 2 then (impl_near.l0 k x2 x7 x13 x14 (wrap64 (x15 + 1)) x299000 x299001 x299002) else (if x7.length < 17592186044416 then (impl_near.l0 k x2 (x7 ++ [rd x13 x15]) x13 x14 (wrap64 (x15 + 1)) x299000 x299001 x299002) else (none))) else (if x7.length < 17592186044416 then (impl_near.l0 k x2 (x7 ++ [rd x13 x15]) x13 x14 (wrap64 (x15 + 1)) x299000 x299001 x299002) else (none)))) else (none)) else (none)) else (none)) else (none)) else (some x7)
def impl_near.f (k : Nat) (a0_0 : Int) (a0_1 : Int) (l0_2 : List Int) (a1 : Int) (a2 : Bool) : Option (List Int) := (impl_beside.f k a0_0 a0_1 l0_2 a1).bind fun t299 => (impl_near.l0 k a2 ([] : List Int) t299 (t299.length : Int) 0 a0_0 a0_1 l0_2)
theorem impl_near.mono_l : ∀ k, (∀ y0 y1 y2 y3 y4 y5 y6 y7, LeO (impl_near.l0 k y0 y1 y2 y3 y4 y5 y6 y7) (impl_near.l0 (k + 1) y0 y1 y2 y3 y4 y5 y6 y7))
 | 0 => fun _ _ _ _ _ _ _ _ r h => by simp [impl_near.l0] at h
 | k + 1 => by
  have ih0 := impl_near.mono_l k
  {
  intro y0 y1 y2 y3 y4 y5 y6 y7
  unfold impl_near.l0
  have j0 := @impl_beside.mono
  exact qL
  }
theorem impl_near.mono : ∀ a0 a1 a2 a3 a4 k, LeO (impl_near.f k a0 a1 a2 a3 a4) (impl_near.f (k + 1) a0 a1 a2 a3 a4) := by
 intro a0 a1 a2 a3 a4 k
 have ih0 := impl_near.mono_l k
 unfold impl_near.f
 have j0 := @impl_beside.mono
 exact qL
theorem impl_near.calls (k : Nat) (a0_0 : Int) (a0_1 : Int) (A0_2 : Option Addr) (c0_2 : Nat) (l0_2 : List Int) (a1 : Int) (a2 : Bool) (r : List Int) (w : World) (hr0_2 : Kd.C (Kd.int .i64) w A0_2 l0_2.length l0_2) (hc0_2 : l0_2.length ≤ c0_2) (h : impl_near.f k a0_0 a0_1 l0_2 a1 a2 = some r) :
  Calls Try.prog 66 #[.agg #[.int .i64 a0_0, .int .i64 a0_1, .slice A0_2 l0_2.length c0_2], .int .i64 a1, .bool a2] w fun e w' => ∃ v0_ : Value, e = .returned (v0_) ∧ Kd.R (Kd.int .i64) 3 w' w.heap.size (fun _ => True) v0_ r ∧ Below w.heap.size w w' := by
 have hu43 := Try.underlying43
 have HR0_2 := aM hr0_2
 have HC0_2 := aM hc0_2
 clear hr0_2 hc0_2
 have HB := aM (Below.refl w.heap.size w)
 unfold impl_near.f at h
 have H := h
 clear h
 replace H := Option.bind_eq_some_iff.mp H
 obtain ⟨t299, A40, H⟩ := H
 have A4 := aM A40
 clear A40
 have H' := aM H
 clear H
 go_enter Try.func66, Try.ntmps66
 go_wp2_with (first | ((with_reducible refine gate_dst (N := 3) rfl ?_); refine bx_ 3 #[.int .i64 a0_0, .int .i64 a0_1, .slice A0_2 l0_2.length c0_2] 43 ?_; intro gb298 hg w5 hbox hb; have BK298 := aM (hbox); have GW298 := aM (bz_ w hg qz1); have GE298 := GW298; replace HB := bS_ hb; clear hb hbox hg; obtain ⟨hcz6_0, hcz6_1, hcz6_2, hfz6_0, hfz6_1, hfz6_2⟩ := b6_ BK298.out) | ((with_reducible refine gate_callee (f := 68) rfl ?_); refine goesL_ (some 13) rfl rfl Try.func68 (by kernel_rfl) rfl #[.agg #[.int .i64 a0_0, .int .i64 a0_1, .slice A0_2 l0_2.length c0_2], .int .i64 a1] rfl qz2 ?_; (with_reducible refine (impl_beside.calls k a0_0 a0_1 _ _ l0_2 a1 t299 _ ?_ ?_ A4.out).mono ?_); exact qz6; exact qz28; rintro e w7 ⟨v300, rfl, ho0, hb⟩; refine ⟨_, rfl, ?_⟩; have HO301 := aM (Kd.R_lower ho0 (below_size qz1)); replace BK298 := bB_ BK298 hb; replace HB := bS_ hb; (try clear hb ho0); obtain ⟨Ao8, co8, eo8⟩ := Kd.R_slice HO301.out; subst eo8))
 go_loopg [7, 15] k (fun kq v7 v15 w' => ∃ (x7_1 : List Int) (x15_1 : Int), v15 = .int .i64 x15_1 ∧ Aside0 (impl_near.l0 kq a2 x7_1 t299 (t299.length : Int) x15_1 a0_0 a0_1 l0_2 = some r) ∧ Aside0 (kq ≤ k) ∧ Aside0 (Kd.R (Kd.int .i64) 3 w' w.heap.size (fun k_ => some k_ ≠ ((.slice Ao8 t299.length co8) : Value).ownBlock) v7 x7_1) ∧ Aside0 (Kd.R (Kd.int .i64) 3 w' w.heap.size (fun k_ => some k_ ≠ (v7 : Value).ownBlock) (.slice Ao8 t299.length co8) t299) ∧ Aside0 (w'.heap[gb298]? = some (.cells #[.int .i64 a0_0, .int .i64 a0_1, (.slice A0_2 l0_2.length c0_2)] 43 (0, 0))) ∧ Aside0 (Below w.heap.size w w'))
 case atStart => exact ⟨(([] : List Int)), (0), qz7, H', ⟨Nat.le_refl _⟩, ⟨by first | exact Kd.R_nil _ _ _ _ _ | exact Kd.N_nil _ _ _ _ _ | exact Kd.V_nil _ _ _ _ _ | exact Kd.Q_nil _ _ _ _ _ | exact Kd.S_nil _ _ _ _ _⟩, ⟨by (with_reducible repeat (first | apply Kd.R_alloc | apply Kd.R_drewN | apply Kd.R_drew)); exact Kd.R_mono HO301.out (fun _ hk => (by simp [Value.ownBlock]))⟩, ⟨bk_ BK298.out⟩, ⟨qz1⟩⟩
 case round =>
 clear H'
 try clear hcz6_0 hcz6_1 hcz6_2 hfz6_0 hfz6_1 hfz6_2
 obtain ⟨x7_1, x15_1, rfl, HA, HK1, HO_7, HO_13, BK298, HB⟩ := hrel
 cases gk with
 | zero => exact absurd HA.out (by simp [impl_near.l0])
 | succ k1 =>
 have H := HA.out
 clear HA
 simp only [impl_near.l0] at H
 replace H := iE_ H
 rcases H with ⟨c9b0, H⟩ | ⟨c9b0, H⟩
 {
 replace H := iD_ H
 obtain ⟨c10b0, H⟩ := H
 replace H := iD_ H
 obtain ⟨c11b0, H⟩ := H
 replace H := iD_ H
 obtain ⟨c12b0, H⟩ := H
 replace H := iD_ H
 obtain ⟨c13b0, H⟩ := H
 replace H := iQ_ H
 rcases H with ⟨c14b0, c14b1, H⟩ | ⟨c14, c14b0, c14b1, H⟩
 {
 have H' := aM H
 clear H
 have p302 : (0 ≤ (x15_1 : Int)) = True := et_
 have q302 : (x15_1 < (t299.length : Int)) = True := et_
 obtain ⟨ad302, e302, hx302_0⟩ := Kd.at_int (Kd.R_reads' HO_13.out).2.2 x15_1 dt_ dt_
 cases e302
 obtain ⟨hcz15_0, hcz15_1, hcz15_2, hfz15_0, hfz15_1, hfz15_2⟩ := b6_ BK298.out
 have p303 : (0 ≤ ((rd t299 x15_1) : Int)) = True := et_
 have q303 : ((rd t299 x15_1) < (l0_2.length : Int)) = True := et_
 obtain ⟨ad303, e303, hx303_0⟩ := tC1_ (Kd.at_int HR0_2.out (rd t299 x15_1) dt_ dt_)
 cases e303
 go_wp2
 go_roundg k1
 case measure => have := HK1.out; omega
 case rel => exact ⟨(x7_1), (wrap64 (x15_1 + 1)), qz7, H', ⟨by have := HK1.out; omega⟩, ⟨rm_ HO_7.out⟩, ⟨rm_ HO_13.out⟩, ⟨bk_ BK298.out⟩, ⟨qz1⟩⟩
 }
 {
 replace H := iB_ H
 rcases H with ⟨rfl, H⟩ | ⟨rfl, H⟩
 {
 replace H := iQ_ H
 rcases H with ⟨c17b0, c17b1, H⟩ | ⟨c17, c17b0, c17b1, H⟩
 {
 have H' := aM H
 clear H
 have p302 : (0 ≤ (x15_1 : Int)) = True := et_
 have q302 : (x15_1 < (t299.length : Int)) = True := et_
 obtain ⟨ad302, e302, hx302_0⟩ := Kd.at_int (Kd.R_reads' HO_13.out).2.2 x15_1 dt_ dt_
 cases e302
 obtain ⟨hcz18_0, hcz18_1, hcz18_2, hfz18_0, hfz18_1, hfz18_2⟩ := b6_ BK298.out
 have p303 : (0 ≤ ((rd t299 x15_1) : Int)) = True := et_
 have q303 : ((rd t299 x15_1) < (l0_2.length : Int)) = True := et_
 obtain ⟨ad303, e303, hx303_0⟩ := tC1_ (Kd.at_int HR0_2.out (rd t299 x15_1) dt_ dt_)
 cases e303
 go_wp2
 go_roundg k1
 case measure => have := HK1.out; omega
 case rel => exact ⟨(x7_1), (wrap64 (x15_1 + 1)), qz7, H', ⟨by have := HK1.out; omega⟩, ⟨rm_ HO_7.out⟩, ⟨rm_ HO_13.out⟩, ⟨bk_ BK298.out⟩, ⟨qz1⟩⟩
 }
 {
 replace H := iN_ H
 obtain ⟨c19, H⟩ := H
 have LMc19 := aM c19
 clear c19
 obtain ⟨y304, hy304⟩ : ∃ y_ : List Int, y_ = (x7_1 ++ [rd t299 x15_1]) := ⟨_, rfl⟩
 replace H : (impl_near.l0 k1 true y304 t299 (t299.length : Int) (wrap64 (x15_1 + 1)) a0_0 a0_1 l0_2) = some r := by first | (rw [hy304]; exact H) | exact H
 have Ny304 := aM hy304
 clear hy304
 have H' := aM H
 clear H
 have p302 : (0 ≤ (x15_1 : Int)) = True := et_
 have q302 : (x15_1 < (t299.length : Int)) = True := et_
 obtain ⟨ad302, e302, hx302_0⟩ := Kd.at_int (Kd.R_reads' HO_13.out).2.2 x15_1 dt_ dt_
 cases e302
 obtain ⟨hcz20_0, hcz20_1, hcz20_2, hfz20_0, hfz20_1, hfz20_2⟩ := b6_ BK298.out
 have p303 : (0 ≤ ((rd t299 x15_1) : Int)) = True := et_
 have q303 : ((rd t299 x15_1) < (l0_2.length : Int)) = True := et_
 obtain ⟨ad303, e303, hx303_0⟩ := tC1_ (Kd.at_int HR0_2.out (rd t299 x15_1) dt_ dt_)
 cases e303
 go_wp2_with (first | ((with_reducible refine gate_builtin (b := .append) (xs := #[.tmp 34, .tmp 36]) rfl ?_); at_builtin; refine Kd.R_append (Kd.int .i64) (w0 := w) w.heap.size rfl (.tmp 34) (.tmp 36) 24 3 (.int .i64 0) 8 rfl Try.underlying24 info3 rfl (by decide) (by omega) u7 x7_1 (rd t299 x15_1) [.int .i64 (rd t299 x15_1)] (fun k_ => some k_ ≠ (.slice (some ad302) t299.length co8 : Value).ownBlock) (fun _ => False) rfl rfl ?aP (fun _ hk => hk.elim) ?aF ?aO ?aB ?aS ?aL ?_; (case aP => exact rfl); (case aB => exact qz1); (case aF => exact (fun k_ hk => Kd.fresh' (Kd.R_lt (rr_ HO_13.out)) k_ hk)); (case aO => exact (rr_ HO_7.out)); (case aS => exact qz32); (case aL => have := LMc19.out; omega); intro v305 w21 ho hb hg hat; rw [← Ny304.out] at ho; replace HO_13 := aM (Kd.R_after (ok := (fun _ => True)) (by (with_reducible repeat (first | apply Kd.R_alloc | apply Kd.R_drewN | apply Kd.R_drew)); exact Kd.R_mono HO_13.out (fun _ hk => ⟨trivial, hk⟩)) hg hat); replace BK298 := aM (blk_grown (bk_ BK298.out) hg (Kd.R_ne HO_7.out BK298.out (by decide))); replace HB := aM (hb); have HO306 := aM (ho); clear HO_7; clear ho hb hg hat))
 go_roundg k1
 case measure => have := HK1.out; omega
 case rel => exact ⟨(y304), (wrap64 (x15_1 + 1)), qz7, H', ⟨by have := HK1.out; omega⟩, ⟨rm_ HO306.out⟩, ⟨by (with_reducible repeat (first | apply Kd.R_alloc | apply Kd.R_drewN | apply Kd.R_drew)); exact Kd.R_mono HO_13.out (fun _ hk => hk.2)⟩, ⟨bk_ BK298.out⟩, ⟨qz1⟩⟩
 }
 }
 {
 replace H := iN_ H
 obtain ⟨c22, H⟩ := H
 have LMc22 := aM c22
 clear c22
 obtain ⟨y307, hy307⟩ : ∃ y_ : List Int, y_ = (x7_1 ++ [rd t299 x15_1]) := ⟨_, rfl⟩
 replace H : (impl_near.l0 k1 false y307 t299 (t299.length : Int) (wrap64 (x15_1 + 1)) a0_0 a0_1 l0_2) = some r := by first | (rw [hy307]; exact H) | exact H
 have Ny307 := aM hy307
 clear hy307
 have H' := aM H
 clear H
 have p302 : (0 ≤ (x15_1 : Int)) = True := et_
 have q302 : (x15_1 < (t299.length : Int)) = True := et_
 obtain ⟨ad302, e302, hx302_0⟩ := Kd.at_int (Kd.R_reads' HO_13.out).2.2 x15_1 dt_ dt_
 cases e302
 obtain ⟨hcz23_0, hcz23_1, hcz23_2, hfz23_0, hfz23_1, hfz23_2⟩ := b6_ BK298.out
 have p303 : (0 ≤ ((rd t299 x15_1) : Int)) = True := et_
 have q303 : ((rd t299 x15_1) < (l0_2.length : Int)) = True := et_
 obtain ⟨ad303, e303, hx303_0⟩ := tC1_ (Kd.at_int HR0_2.out (rd t299 x15_1) dt_ dt_)
 cases e303
 go_wp2_with (first | ((with_reducible refine gate_builtin (b := .append) (xs := #[.tmp 34, .tmp 36]) rfl ?_); at_builtin; refine Kd.R_append (Kd.int .i64) (w0 := w) w.heap.size rfl (.tmp 34) (.tmp 36) 24 3 (.int .i64 0) 8 rfl Try.underlying24 info3 rfl (by decide) (by omega) u7 x7_1 (rd t299 x15_1) [.int .i64 (rd t299 x15_1)] (fun k_ => some k_ ≠ (.slice (some ad302) t299.length co8 : Value).ownBlock) (fun _ => False) rfl rfl ?aP (fun _ hk => hk.elim) ?aF ?aO ?aB ?aS ?aL ?_; (case aP => exact rfl); (case aB => exact qz1); (case aF => exact (fun k_ hk => Kd.fresh' (Kd.R_lt (rr_ HO_13.out)) k_ hk)); (case aO => exact (rr_ HO_7.out)); (case aS => exact qz32); (case aL => have := LMc22.out; omega); intro v308 w24 ho hb hg hat; rw [← Ny307.out] at ho; replace HO_13 := aM (Kd.R_after (ok := (fun _ => True)) (by (with_reducible repeat (first | apply Kd.R_alloc | apply Kd.R_drewN | apply Kd.R_drew)); exact Kd.R_mono HO_13.out (fun _ hk => ⟨trivial, hk⟩)) hg hat); replace BK298 := aM (blk_grown (bk_ BK298.out) hg (Kd.R_ne HO_7.out BK298.out (by decide))); replace HB := aM (hb); have HO309 := aM (ho); clear HO_7; clear ho hb hg hat))
 go_roundg k1
 case measure => have := HK1.out; omega
 case rel => exact ⟨(y307), (wrap64 (x15_1 + 1)), qz7, H', ⟨by have := HK1.out; omega⟩, ⟨rm_ HO309.out⟩, ⟨by (with_reducible repeat (first | apply Kd.R_alloc | apply Kd.R_drewN | apply Kd.R_drew)); exact Kd.R_mono HO_13.out (fun _ hk => hk.2)⟩, ⟨bk_ BK298.out⟩, ⟨qz1⟩⟩
 }
 }
 }
 {
 obtain rfl := Option.some.inj H
 go_wp2
 go_ret
 exact ⟨_, qzw, by (with_reducible repeat (first | apply Kd.R_alloc | apply Kd.R_drewN | apply Kd.R_drew)); exact Kd.R_mono HO_7.out (fun _ hk => trivial), qz1⟩
 }
/-! ### impl_hasInt: function 67 -/
def impl_hasInt.l0 : Nat → Int → List Int → Int → Int → Option (Bool)
 | 0, _, _, _, _ => none
 | k + 1, x1, x7, x8, x9 => if x9 < x8 then (if 0 ≤ x9 then (if x9 < (x7.length : Int) then (if (rd x7 x9) = x1 then (some true) else (impl_hasInt.l0 k x1 x7 x8 (wrap64 (x9 + 1)))) else (none)) else (none)) else (some false)
def impl_hasInt.f (k : Nat) (l0 : List Int) (a1 : Int) : Option (Bool) := impl_hasInt.l0 k a1 l0 (l0.length : Int) 0
theorem impl_hasInt.mono_l : ∀ k, (∀ y0 y1 y2 y3, LeO (impl_hasInt.l0 k y0 y1 y2 y3) (impl_hasInt.l0 (k + 1) y0 y1 y2 y3))
 | 0 => fun _ _ _ _ r h => by simp [impl_hasInt.l0] at h
 | k + 1 => by
  have ih0 := impl_hasInt.mono_l k
  {
  intro y0 y1 y2 y3
  unfold impl_hasInt.l0
  exact qL
  }
theorem impl_hasInt.mono : ∀ a0 a1 k, LeO (impl_hasInt.f k a0 a1) (impl_hasInt.f (k + 1) a0 a1) := by
 intro a0 a1 k
 have ih0 := impl_hasInt.mono_l k
 unfold impl_hasInt.f
 exact qL
theorem impl_hasInt.calls (k : Nat) (A0 : Option Addr) (c0 : Nat) (l0 : List Int) (a1 : Int) (r : Bool) (w : World) (hr0 : Kd.C (Kd.int .i64) w A0 l0.length l0) (hc0 : l0.length ≤ c0) (h : impl_hasInt.f k l0 a1 = some r) :
  Calls Try.prog 67 #[.slice A0 l0.length c0, .int .i64 a1] w fun e w' => e = .returned (.bool r) ∧ Drawn0 w w' := by
 have HR0 := aM hr0
 have HC0 := aM hc0
 clear hr0 hc0
 unfold impl_hasInt.f at h
 have H := h
 clear h
 have H' := aM H
 clear H
 go_enter Try.func67, Try.ntmps67
 go_wp2
 go_loopg [9] k (fun kq v9 w' => ∃ (x9_1 : Int), v9 = .int .i64 x9_1 ∧ Aside0 (impl_hasInt.l0 kq a1 l0 (l0.length : Int) x9_1 = some r) ∧ Aside0 (kq ≤ k) ∧ Drawn0 w w')
 case atStart => exact ⟨(0), qz7, H', ⟨Nat.le_refl _⟩, by repeat (first | exact Drawn0.refl _ | apply Drawn0.step)⟩
 case round =>
 clear H'
 obtain ⟨x9_1, rfl, HA, HK1, ⟨m1, rfl⟩⟩ := hrel
 cases gk with
 | zero => exact absurd HA.out (by simp [impl_hasInt.l0])
 | succ k1 =>
 have H := HA.out
 clear HA
 simp only [impl_hasInt.l0] at H
 replace H := iE_ H
 rcases H with ⟨c3b0, H⟩ | ⟨c3b0, H⟩
 {
 replace H := iD_ H
 obtain ⟨c4b0, H⟩ := H
 replace H := iD_ H
 obtain ⟨c5b0, H⟩ := H
 replace H := iQ_ H
 rcases H with ⟨c6b0, c6b1, H⟩ | ⟨c6, c6b0, c6b1, H⟩
 {
 obtain rfl := Option.some.inj H
 have p310 : (0 ≤ (x9_1 : Int)) = True := et_
 have q310 : (x9_1 < (l0.length : Int)) = True := et_
 obtain ⟨ad310, e310, hx310_0⟩ := Kd.at_int HR0.out x9_1 dt_ dt_
 cases e310
 go_wp2
 go_ret
 exact ⟨by first | rfl | (simp; done) | (simp [*]; done), by repeat (first | exact Drawn0.refl _ | apply Drawn0.step)⟩
 }
 {
 have H' := aM H
 clear H
 have p310 : (0 ≤ (x9_1 : Int)) = True := et_
 have q310 : (x9_1 < (l0.length : Int)) = True := et_
 obtain ⟨ad310, e310, hx310_0⟩ := Kd.at_int HR0.out x9_1 dt_ dt_
 cases e310
 go_wp2
 go_roundg k1
 case measure => have := HK1.out; omega
 case rel => exact ⟨(wrap64 (x9_1 + 1)), qz7, H', ⟨by have := HK1.out; omega⟩, by repeat (first | exact Drawn0.refl _ | apply Drawn0.step)⟩
 }
 }
 {
 obtain rfl := Option.some.inj H
 go_wp2
 go_ret
 exact ⟨by first | rfl | (simp; done) | (simp [*]; done), by repeat (first | exact Drawn0.refl _ | apply Drawn0.step)⟩
 }
end Go.Proofs.Ytankmdbbgepmbaa.PFnClashes
