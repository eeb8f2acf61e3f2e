-- Made by a program of this session out of the translation. Lean checks it.
import Derived.Test.YtankmdbbgepmbaaPFnFirstx4
import Derived.Test.YtankmdbbgepmbaaPFnFirstx5
import Derived.Test.YtankmdbbgepmbaaPFnFirstx6
namespace Go.Proofs.Ytankmdbbgepmbaa.PFnFirst
open Go.RowKit Go.Proofs.YtankmdbbgepmbaaW.PrintWords Go.Proofs.YtankmdbbgepmbaaW.PrintLast Go.Proofs.YtankmdbbgepmbaaW.PrintMore
attribute [local go_sem] max2_int min2_int max_two min_two max_three min_three max_four min_four   -- for this text's walks alone
set_option linter.unusedVariables false
set_option linter.unusedSimpArgs false

/-! ### impl_Clash: function 39 -/
mutual
def impl_Clash.j0 : Nat → List (S37) → List Int → Bool → Int → Int → List Int → Option (Int)
 | 0, _, _, _, _, _, _ => none
 | k + 1, x1, x2, x19, x199000, x199001, x199002 => if x19 = true then (some 1) else (impl_Clash.l0 k x1 x2 x1 (x1.length : Int) 0 x199000 x199001 x199002)
def impl_Clash.l0 : Nat → List (S37) → List Int → List (S37) → Int → Int → Int → Int → List Int → Option (Int)
 | 0, _, _, _, _, _, _, _, _ => none
 | k + 1, x1, x2, x20, x21, x22, x199000, x199001, x199002 => if x22 < x21 then (if 0 ≤ x22 then (if x22 < (x20.length : Int) then ((impl_Choices.f k x199000 x199001 x199002 ((rd_T37 x20 x22).f0) ((rd_T37 x20 x22).f1) ((rd_T37 x20 x22).f2) ((rd_T37 x20 x22).f3) ((rd_T37 x20 x22).f4)).bind fun t202 => (if x22 < (x2.length : Int) then ((impl_hasInt.f k t202 (rd x2 x22)).bind fun t206 => (if t206 = true then (impl_Clash.l0 k x1 x2 x20 x21 (wrap64 (x22 + 1)) x199000 x199001 x199002) else (some 4))) else (none))) else (none)) else (none)) else ((impl_same.f k x2).bind fun t207 => (if t207 = true then (some 2) else ((impl_swaps.f k x1 x2).bind fun t208 => (if t208 = true then (some 3) else (some 0)))))
end
def impl_Clash.f (k : Nat) (a0_0 : Int) (a0_1 : Int) (l0_2 : List Int) (l1 : List (S37)) (l2 : List Int) : Option (Int) := (impl_CrewOk.f k a0_0 a0_1 l0_2 l1).bind fun t199 => (if t199 = true then (impl_Clash.j0 k l1 l2 ((l2.length : Int) != (l1.length : Int)) a0_0 a0_1 l0_2) else (impl_Clash.j0 k l1 l2 true a0_0 a0_1 l0_2))
theorem impl_Clash.mono_l : ∀ k, (∀ y0 y1 y2 y3 y4 y5, LeO (impl_Clash.j0 k y0 y1 y2 y3 y4 y5) (impl_Clash.j0 (k + 1) y0 y1 y2 y3 y4 y5)) ∧ (∀ y0 y1 y2 y3 y4 y5 y6 y7, LeO (impl_Clash.l0 k y0 y1 y2 y3 y4 y5 y6 y7) (impl_Clash.l0 (k + 1) y0 y1 y2 y3 y4 y5 y6 y7))
 | 0 => ⟨fun _ _ _ _ _ _ r h => by simp [impl_Clash.j0] at h, fun _ _ _ _ _ _ _ _ r h => by simp [impl_Clash.l0] at h⟩
 | k + 1 => by
  obtain ⟨ih0, ih1⟩ := impl_Clash.mono_l k
  refine ⟨?_, ?_⟩
  {
  intro y0 y1 y2 y3 y4 y5
  unfold impl_Clash.j0
  have j0 := @impl_Choices.mono
  have j1 := @impl_CrewOk.mono
  have j2 := @impl_hasInt.mono
  have j3 := @impl_same.mono
  have j4 := @impl_swaps.mono
  exact qL
  }
  {
  intro y0 y1 y2 y3 y4 y5 y6 y7
  unfold impl_Clash.l0
  have j0 := @impl_Choices.mono
  have j1 := @impl_CrewOk.mono
  have j2 := @impl_hasInt.mono
  have j3 := @impl_same.mono
  have j4 := @impl_swaps.mono
  exact qL
  }
theorem impl_Clash.mono : ∀ a0 a1 a2 a3 a4 k, LeO (impl_Clash.f k a0 a1 a2 a3 a4) (impl_Clash.f (k + 1) a0 a1 a2 a3 a4) := by
 intro a0 a1 a2 a3 a4 k
 obtain ⟨ih0, ih1⟩ := impl_Clash.mono_l k
 unfold impl_Clash.f
 have j0 := @impl_Choices.mono
 have j1 := @impl_CrewOk.mono
 have j2 := @impl_hasInt.mono
 have j3 := @impl_same.mono
 have j4 := @impl_swaps.mono
 exact qL
def impl_Clash.T6 : Bool × List (List Nat × List Nat) := (true, [([], []), ([], []), ([0, 1], [0, 1]), ([], []), ([], []), ([3, 4], [3, 4]), ([5], [5]), ([2, 6, 2], [2, 6]), ([7], [7])])
def impl_Clash.B6 : List Nat := [0, 0, 3, 0, 0, 24, 56, 127, 255]
theorem impl_Clash.tab6 : rtab .any (opsOf Try.f39 6) = impl_Clash.T6 := by kernel_rfl
theorem impl_Clash.bits6 : waitsOk impl_Clash.T6.2 impl_Clash.B6 = true := by kernel_rfl
set_option maxHeartbeats 8000000 in
set_option maxRecDepth 100000 in
theorem impl_Clash.calls (k : Nat) (a0_0 : Int) (a0_1 : Int) (A0_2 : Option Addr) (c0_2 : Nat) (l0_2 : List Int) (A1 : Option Addr) (c1 : Nat) (l1 : List (S37)) (A2 : Option Addr) (c2 : Nat) (l2 : List Int) (r : Int) (w : World) (hr0_2 : Kd.C (Kd.int .i64) w A0_2 l0_2.length l0_2) (hc0_2 : l0_2.length ≤ c0_2) (hr1 : Kd.C k37 w A1 l1.length l1) (hc1 : l1.length ≤ c1) (hr2 : Kd.C (Kd.int .i64) w A2 l2.length l2) (hc2 : l2.length ≤ c2) (h : impl_Clash.f k a0_0 a0_1 l0_2 l1 l2 = some r) :
  Calls Try.prog 39 #[.agg #[.int .i64 a0_0, .int .i64 a0_1, .slice A0_2 l0_2.length c0_2], .slice A1 l1.length c1, .slice A2 l2.length c2] w fun e w' => e = .returned (.int .i64 r) ∧ Below w.heap.size w w' := by
 have hu43 := Try.underlying43
 have hu37 := Try.underlying37
 have HR0_2 := aM hr0_2
 have HC0_2 := aM hc0_2
 clear hr0_2 hc0_2
 have HR1 := aM hr1
 have HC1 := aM hc1
 clear hr1 hc1
 have HR2 := aM hr2
 have HC2 := aM hc2
 clear hr2 hc2
 have HB := aM (Below.refl w.heap.size w)
 unfold impl_Clash.f at h
 have H := h
 clear h
 have HC4 := aM H
 clear H
 go_enter Try.func39, Try.ntmps39
 go_upto_region 1 with (first | ((with_reducible refine gate_dst (N := 3) rfl ?_); (try (refine gate_guard (by rfl) ?_; dsimp only)); refine bx_ 3 #[.int .i64 a0_0, .int .i64 a0_1, .slice A0_2 l0_2.length c0_2] 43 ?_; intro gb198 hg w5 hbox hb; have BK198 := aM (hbox); have GW198 := aM (bz_ w hg qz1); have GE198 := GW198; replace HB := bS_ hb; clear hb hbox hg))
 (try simp only [Act.put, List.setIfInBounds_toArray, List.set_cons_zero, List.set_cons_succ])
 go_cut [19] (fun v19 wc => ∃ (kq : Nat) (x19_3 : Bool), v19 = .bool x19_3 ∧ Aside0 (impl_Clash.j0 kq l1 l2 x19_3 a0_0 a0_1 l0_2 = some r) ∧ Aside0 (kq ≤ k) ∧ Aside0 (wc.heap[gb198]? = some (.cells #[.int .i64 a0_0, .int .i64 a0_1, (.slice A0_2 l0_2.length c0_2)] 43 (0, 0))) ∧ Aside0 (Below w.heap.size w wc))
 case first =>
  have H := HC4.out
  clear HC4
  replace H := Option.bind_eq_some_iff.mp H
  obtain ⟨t199, A60, H⟩ := H
  have A6 := aM A60
  clear A60
  replace H := iB_ H
  rcases H with ⟨rfl, H⟩ | ⟨rfl, H⟩
  {
  have H' := aM H
  clear H
  obtain ⟨hcz8_0, hcz8_1, hcz8_2, hfz8_0, hfz8_1, hfz8_2⟩ := b6_ BK198.out
  go_wp2_with (first | ((with_reducible refine gate_callee (f := 45) rfl ?_); refine goesL_ (some 11) rfl rfl Try.func45 (by kernel_rfl) rfl #[.agg #[.int .i64 a0_0, .int .i64 a0_1, .slice A0_2 l0_2.length c0_2], .slice A1 l1.length c1] rfl qz2 ?_; (with_reducible refine (impl_CrewOk.calls k a0_0 a0_1 _ _ l0_2 _ _ l1 true _ ?side1 ?side2 ?side3 ?side4 A6.out).mono ?_); (case side1 => exact qz5); (case side2 => exact qz16); (case side3 => repeat (first | exact (Kd.C_below HR1.out HB.out) | (with_reducible refine Kd.C_alloc ?_ _) | (with_reducible refine Kd.C_drewN ?_ _) | (with_reducible refine Kd.C_drew ?_))); (case side4 => exact HC1.out); rintro e w9 ⟨rfl, hb⟩; refine ⟨_, rfl, ?_⟩; replace BK198 := bB_ BK198 hb; replace HB := bS_ hb; (try clear hb)))
  go_meet
  case rel => exact ⟨_, (((l2.length : Int) != (l1.length : Int))), qz6, H', ⟨by first | omega | exact Nat.le_refl _⟩, ⟨bk_ BK198.out⟩, ⟨qz1⟩⟩
  }
  {
  have H' := aM H
  clear H
  obtain ⟨hcz10_0, hcz10_1, hcz10_2, hfz10_0, hfz10_1, hfz10_2⟩ := b6_ BK198.out
  go_wp2_with (first | ((with_reducible refine gate_callee (f := 45) rfl ?_); refine goesL_ (some 11) rfl rfl Try.func45 (by kernel_rfl) rfl #[.agg #[.int .i64 a0_0, .int .i64 a0_1, .slice A0_2 l0_2.length c0_2], .slice A1 l1.length c1] rfl qz2 ?_; (with_reducible refine (impl_CrewOk.calls k a0_0 a0_1 _ _ l0_2 _ _ l1 false _ ?side1 ?side2 ?side3 ?side4 A6.out).mono ?_); (case side1 => exact qz5); (case side2 => exact qz16); (case side3 => repeat (first | exact (Kd.C_below HR1.out HB.out) | (with_reducible refine Kd.C_alloc ?_ _) | (with_reducible refine Kd.C_drewN ?_ _) | (with_reducible refine Kd.C_drew ?_))); (case side4 => exact HC1.out); rintro e w11 ⟨rfl, hb⟩; refine ⟨_, rfl, ?_⟩; replace BK198 := bB_ BK198 hb; replace HB := bS_ hb; (try clear hb)))
  go_meet
  case rel => exact ⟨_, (true), qz6, H', ⟨by first | omega | exact Nat.le_refl _⟩, ⟨bk_ BK198.out⟩, ⟨qz1⟩⟩
  }
 case rest =>
 clear HC4
 try clear c1
 try clear c2
 obtain ⟨kq, x19_3, rfl, HA, HJ3, BK198, HB⟩ := hcut
 cases kq with
 | zero => exact absurd HA.out (by simp [impl_Clash.j0])
 | succ kj3 =>
 have H := HA.out
 clear HA
 simp only [impl_Clash.j0] at H
 replace H := iB_ H
 rcases H with ⟨rfl, H⟩ | ⟨rfl, H⟩
 {
 obtain rfl := Option.some.inj H
 go_wp2
 go_ret
 exact ⟨qzw, qz1⟩
 }
 {
 have H' := aM H
 clear H
 go_wp2
 go_loopg [22] kj3 (fun kq v22 w' => ∃ (x22_2 : Int), v22 = .int .i64 x22_2 ∧ Aside0 (impl_Clash.l0 kq l1 l2 l1 (l1.length : Int) x22_2 a0_0 a0_1 l0_2 = some r) ∧ Aside0 (kq ≤ kj3) ∧ Aside0 (w'.heap[gb198]? = some (.cells #[.int .i64 a0_0, .int .i64 a0_1, (.slice A0_2 l0_2.length c0_2)] 43 (0, 0))) ∧ Aside0 (Below w.heap.size w w'))
 case atStart => exact ⟨(0), qz6, H', ⟨Nat.le_refl _⟩, ⟨bk_ BK198.out⟩, ⟨qz1⟩⟩
 case round =>
 clear H'
 try clear c1
 try clear c2
 try clear c12
 obtain ⟨x22_2, rfl, HA, HK2, BK198, HB⟩ := hrel
 cases gk with
 | zero => exact absurd HA.out (by simp [impl_Clash.l0])
 | succ k2 =>
 have H := HA.out
 clear HA
 simp only [impl_Clash.l0] at H
 replace H := iE_ H
 rcases H with ⟨c13b0, H⟩ | ⟨c13b0, H⟩
 {
 replace H := iD_ H
 obtain ⟨c14b0, H⟩ := H
 replace H := iD_ H
 obtain ⟨c15b0, H⟩ := H
 replace H := Option.bind_eq_some_iff.mp H
 obtain ⟨t202, A160, H⟩ := H
 have A16 := aM A160
 clear A160
 replace H := iD_ H
 obtain ⟨c17b0, H⟩ := H
 replace H := Option.bind_eq_some_iff.mp H
 obtain ⟨t206, A180, H⟩ := H
 have A18 := aM A180
 clear A180
 replace H := iB_ H
 rcases H with ⟨rfl, H⟩ | ⟨rfl, H⟩
 {
 have H' := aM H
 clear H
 have p200 : (0 ≤ (x22_2 : Int)) = True := et_
 have q200 : (x22_2 < (l1.length : Int)) = True := et_
 obtain ⟨ad200, e200, hx200_0, hx200_1, hx200_2, hx200_3, hx200_4⟩ := at_T37 HR1.out x22_2 dt_ dt_
 cases e200
 replace hx200_0 := cB_ hx200_0
 replace hx200_1 := cB_ hx200_1
 replace hx200_2 := cB_ hx200_2
 replace hx200_3 := cB_ hx200_3
 replace hx200_4 := cB_ hx200_4
 try go_wp2_with (first | ((with_reducible refine gate_dst (N := 8) rfl ?_); (try (refine gate_guard (by rfl) ?_; dsimp only)); refine bx_ 8 #[.int .i64 0, .int .i64 0, .int .i64 0, .bool false, .int .i64 0] 37 ?_; intro gb201 hg w20 hbox hb; have BK201 := aM (hbox); have GW201 := aM (bz_ w hg qz1); have GE201 := GW201; replace HB := bS_ hb; obtain ⟨NB198_201, NB201_198⟩ := nb_ hg (bk_ BK198.out); replace BK198 := bB_ BK198 hb; clear hb hbox hg; have hnb21 := NB201_198.out; have hnc21 := NB198_201.out; obtain ⟨hcz22_0, hcz22_1, hcz22_2, hcz22_3, hcz22_4, hfz22_0, hfz22_1, hfz22_2, hfz22_3, hfz22_4⟩ := b10_ BK201.out))
 generalize hq_ : (((((w20.setCell ⟨gb201, 0, none⟩ (.int .i64 ((rd_T37 l1 x22_2).f0))).setCell ⟨gb201, 1, none⟩ (.int .i64 ((rd_T37 l1 x22_2).f1))).setCell ⟨gb201, 2, none⟩ (.int .i64 ((rd_T37 l1 x22_2).f2))).setCell ⟨gb201, 3, none⟩ (.bool ((rd_T37 l1 x22_2).f3))).setCell ⟨gb201, 4, none⟩ (.int .i64 ((rd_T37 l1 x22_2).f4))) = w23
 replace BK198 := bqo_ hq_ BK198
 replace BK201 := bq5_ hq_ BK201
 replace HB : Aside0 (Below w.heap.size w w23) := ⟨by rw [← hq_]; exact qz1⟩
 clear hq_
 replace BK198 := aM (blk_drew BK198.out)
 replace BK201 := aM (blk_drew BK201.out)
 replace HB := aM (below_drew1 HB.out)
 have p205 : (0 ≤ (x22_2 : Int)) = True := et_
 have q205 : (x22_2 < (l2.length : Int)) = True := et_
 obtain ⟨ad205, e205, hx205_0⟩ := Kd.at_int HR2.out x22_2 dt_ dt_
 have hw205_0 := hx205_0
 cases e205
 replace hx205_0 := cB_ hx205_0
 refine start_ (n := 9) (S := fun w' => w'.cell? ⟨gb198, 0, none⟩ = some (.int .i64 a0_0) ∧ w'.cell? ⟨gb198, 1, none⟩ = some (.int .i64 a0_1) ∧ w'.cell? ⟨gb198, 2, none⟩ = some (.slice A0_2 l0_2.length c0_2) ∧ w'.cell? ⟨gb201, 0, none⟩ = some (.int .i64 ((rd_T37 l1 x22_2).f0)) ∧ w'.cell? ⟨gb201, 1, none⟩ = some (.int .i64 ((rd_T37 l1 x22_2).f1)) ∧ w'.cell? ⟨gb201, 2, none⟩ = some (.int .i64 ((rd_T37 l1 x22_2).f2)) ∧ w'.cell? ⟨gb201, 3, none⟩ = some (.bool ((rd_T37 l1 x22_2).f3)) ∧ w'.cell? ⟨gb201, 4, none⟩ = some (.int .i64 ((rd_T37 l1 x22_2).f4)) ∧ w'.cell? (ad205.add (x22_2).toNat) = some (.int .i64 (rd l2 x22_2))) (ds := []) #[false, false, false, false, false, false, false, false, false] (by kernel_rfl) rfl rfl ⟨(blk_cell BK198.out 0).trans rfl, (blk_cell BK198.out 1).trans rfl, (blk_cell BK198.out 2).trans rfl, (blk_cell BK201.out 0).trans rfl, (blk_cell BK201.out 1).trans rfl, (blk_cell BK201.out 2).trans rfl, (blk_cell BK201.out 3).trans rfl, (blk_cell BK201.out 4).trans rfl, (cB_ hw205_0)⟩ (fun hHeld => ?_); refine with_tabW impl_Clash.tab6 impl_Clash.bits6 (fun HT_ HW_ => ?_)
 generalize w23.drew = w24 at BK198 BK201 HB hx205_0 hHeld ⊢
 refine pI_ 3 30 (bqz 9 8) ?_
 refine jI_ 4 31 ?_
 refine jI_ 5 32 ?_
 refine sI9_ 0 27 ?_
 refine sI9_ 1 28 ?_
 refine sI9_ 6 33 ?_
 refine oI_ 2 29 (bqz 9 127) (fun K hK => ?_)
 refine goes_ Try.func29 (by kernel_rfl) rfl #[.agg #[.int .i64 a0_0, .int .i64 a0_1, .slice A0_2 l0_2.length c0_2], .agg #[.int .i64 ((rd_T37 l1 x22_2).f0), .int .i64 ((rd_T37 l1 x22_2).f1), .int .i64 ((rd_T37 l1 x22_2).f2), .bool ((rd_T37 l1 x22_2).f3), .int .i64 ((rd_T37 l1 x22_2).f4)]] (by rfl) rfl rfl qz2 ?_
 with_reducible refine (impl_Choices.calls k2 a0_0 a0_1 _ _ l0_2 ((rd_T37 l1 x22_2).f0) ((rd_T37 l1 x22_2).f1) ((rd_T37 l1 x22_2).f2) ((rd_T37 l1 x22_2).f3) ((rd_T37 l1 x22_2).f4) t202 _ ?side1 ?side2 A16.out).mono ?_
 (case side1 => exact qz5)
 (case side2 => exact qz16)
 rintro e w25 ⟨v203, rfl, ho0, hb⟩
 refine ⟨_, rfl, ?_⟩
 have HO204 := aM (Kd.R_lower ho0 (below_size qz1))
 replace BK198 := bB_ BK198 hb
 replace BK201 := bB_ BK201 hb
 replace HB := bS_ hb
 (try clear hb)
 (try clear hb2)
 (try clear hk)
 (try clear hi)
 (try clear ho0)
 obtain ⟨Ao26, co26, eo26⟩ := Kd.R_slice HO204.out
 (first | subst eo26 | (injection eo26 with f1_ f2_ f3_; have f4_ := f1_.symm; have f5_ := f3_.symm; clear f1_ f2_ f3_; subst f4_; subst f5_))
 refine hK.out _ _ (b3A_ BK198 (b5A_ BK201 (cB_ hw205_0))) (fun hHeld => ?_)
 clear hK K
 refine nm_ 29 ?_
 refine oI_ 7 34 (bqz 9 255) (fun K hK => ?_)
 refine goes_ Try.func67 (by kernel_rfl) rfl #[.slice Ao26 t202.length co26, .int .i64 (rd l2 x22_2)] (by rfl) rfl rfl qz2 ?_
 with_reducible refine (impl_hasInt.calls k2 _ _ t202 (rd l2 x22_2) true _ ?side1 ?side2 A18.out).mono ?_
 (case side1 => repeat (first | exact (Kd.R_reads' HO204.out).2.2 | (with_reducible refine Kd.C_alloc ?_ _) | (with_reducible refine Kd.C_drewN ?_ _) | (with_reducible refine Kd.C_drew ?_)))
 (case side2 => exact (Kd.R_reads' HO204.out).2.1)
 rintro e w' ⟨rfl, ⟨nd, rfl⟩⟩
 refine ⟨_, rfl, ?_⟩
 refine hK.out _ _ (b3A_ BK198 (b5A_ BK201 (cB_ hw205_0))) (fun hHeld => ?_)
 clear hK K
 refine nm_ 34 ?_
 refine pI_ 8 35 (bqz 9 511) ?_
 refine done_ (done_of HT_.out (by kernel_rfl)) ?_
 try go_wp2
 go_roundg k2
 case measure => have := HJ3.out; have := HK2.out; omega
 case rel => exact ⟨(wrap64 (x22_2 + 1)), qz6, H', ⟨by have := HJ3.out; have := HK2.out; omega⟩, ⟨bk_ BK198.out⟩, ⟨qz1⟩⟩
 }
 {
 obtain rfl := Option.some.inj H
 have p200 : (0 ≤ (x22_2 : Int)) = True := et_
 have q200 : (x22_2 < (l1.length : Int)) = True := et_
 obtain ⟨ad200, e200, hx200_0, hx200_1, hx200_2, hx200_3, hx200_4⟩ := at_T37 HR1.out x22_2 dt_ dt_
 cases e200
 replace hx200_0 := cB_ hx200_0
 replace hx200_1 := cB_ hx200_1
 replace hx200_2 := cB_ hx200_2
 replace hx200_3 := cB_ hx200_3
 replace hx200_4 := cB_ hx200_4
 try go_wp2_with (first | ((with_reducible refine gate_dst (N := 8) rfl ?_); (try (refine gate_guard (by rfl) ?_; dsimp only)); refine bx_ 8 #[.int .i64 0, .int .i64 0, .int .i64 0, .bool false, .int .i64 0] 37 ?_; intro gb201 hg w27 hbox hb; have BK201 := aM (hbox); have GW201 := aM (bz_ w hg qz1); have GE201 := GW201; replace HB := bS_ hb; obtain ⟨NB198_201, NB201_198⟩ := nb_ hg (bk_ BK198.out); replace BK198 := bB_ BK198 hb; clear hb hbox hg; have hnb28 := NB201_198.out; have hnc28 := NB198_201.out; obtain ⟨hcz29_0, hcz29_1, hcz29_2, hcz29_3, hcz29_4, hfz29_0, hfz29_1, hfz29_2, hfz29_3, hfz29_4⟩ := b10_ BK201.out))
 generalize hq_ : (((((w27.setCell ⟨gb201, 0, none⟩ (.int .i64 ((rd_T37 l1 x22_2).f0))).setCell ⟨gb201, 1, none⟩ (.int .i64 ((rd_T37 l1 x22_2).f1))).setCell ⟨gb201, 2, none⟩ (.int .i64 ((rd_T37 l1 x22_2).f2))).setCell ⟨gb201, 3, none⟩ (.bool ((rd_T37 l1 x22_2).f3))).setCell ⟨gb201, 4, none⟩ (.int .i64 ((rd_T37 l1 x22_2).f4))) = w30
 replace BK198 := bqo_ hq_ BK198
 replace BK201 := bq5_ hq_ BK201
 replace HB : Aside0 (Below w.heap.size w w30) := ⟨by rw [← hq_]; exact qz1⟩
 clear hq_
 replace BK198 := aM (blk_drew BK198.out)
 replace BK201 := aM (blk_drew BK201.out)
 replace HB := aM (below_drew1 HB.out)
 have p205 : (0 ≤ (x22_2 : Int)) = True := et_
 have q205 : (x22_2 < (l2.length : Int)) = True := et_
 obtain ⟨ad205, e205, hx205_0⟩ := Kd.at_int HR2.out x22_2 dt_ dt_
 have hw205_0 := hx205_0
 cases e205
 replace hx205_0 := cB_ hx205_0
 refine start_ (n := 9) (S := fun w' => w'.cell? ⟨gb198, 0, none⟩ = some (.int .i64 a0_0) ∧ w'.cell? ⟨gb198, 1, none⟩ = some (.int .i64 a0_1) ∧ w'.cell? ⟨gb198, 2, none⟩ = some (.slice A0_2 l0_2.length c0_2) ∧ w'.cell? ⟨gb201, 0, none⟩ = some (.int .i64 ((rd_T37 l1 x22_2).f0)) ∧ w'.cell? ⟨gb201, 1, none⟩ = some (.int .i64 ((rd_T37 l1 x22_2).f1)) ∧ w'.cell? ⟨gb201, 2, none⟩ = some (.int .i64 ((rd_T37 l1 x22_2).f2)) ∧ w'.cell? ⟨gb201, 3, none⟩ = some (.bool ((rd_T37 l1 x22_2).f3)) ∧ w'.cell? ⟨gb201, 4, none⟩ = some (.int .i64 ((rd_T37 l1 x22_2).f4)) ∧ w'.cell? (ad205.add (x22_2).toNat) = some (.int .i64 (rd l2 x22_2))) (ds := []) #[false, false, false, false, false, false, false, false, false] (by kernel_rfl) rfl rfl ⟨(blk_cell BK198.out 0).trans rfl, (blk_cell BK198.out 1).trans rfl, (blk_cell BK198.out 2).trans rfl, (blk_cell BK201.out 0).trans rfl, (blk_cell BK201.out 1).trans rfl, (blk_cell BK201.out 2).trans rfl, (blk_cell BK201.out 3).trans rfl, (blk_cell BK201.out 4).trans rfl, (cB_ hw205_0)⟩ (fun hHeld => ?_); refine with_tabW impl_Clash.tab6 impl_Clash.bits6 (fun HT_ HW_ => ?_)
 generalize w30.drew = w31 at BK198 BK201 HB hx205_0 hHeld ⊢
 refine pI_ 3 30 (bqz 9 8) ?_
 refine jI_ 4 31 ?_
 refine jI_ 5 32 ?_
 refine sI9_ 0 27 ?_
 refine sI9_ 1 28 ?_
 refine sI9_ 6 33 ?_
 refine oI_ 2 29 (bqz 9 127) (fun K hK => ?_)
 refine goes_ Try.func29 (by kernel_rfl) rfl #[.agg #[.int .i64 a0_0, .int .i64 a0_1, .slice A0_2 l0_2.length c0_2], .agg #[.int .i64 ((rd_T37 l1 x22_2).f0), .int .i64 ((rd_T37 l1 x22_2).f1), .int .i64 ((rd_T37 l1 x22_2).f2), .bool ((rd_T37 l1 x22_2).f3), .int .i64 ((rd_T37 l1 x22_2).f4)]] (by rfl) rfl rfl qz2 ?_
 with_reducible refine (impl_Choices.calls k2 a0_0 a0_1 _ _ l0_2 ((rd_T37 l1 x22_2).f0) ((rd_T37 l1 x22_2).f1) ((rd_T37 l1 x22_2).f2) ((rd_T37 l1 x22_2).f3) ((rd_T37 l1 x22_2).f4) t202 _ ?side1 ?side2 A16.out).mono ?_
 (case side1 => exact qz5)
 (case side2 => exact qz16)
 rintro e w32 ⟨v203, rfl, ho0, hb⟩
 refine ⟨_, rfl, ?_⟩
 have HO204 := aM (Kd.R_lower ho0 (below_size qz1))
 replace BK198 := bB_ BK198 hb
 replace BK201 := bB_ BK201 hb
 replace HB := bS_ hb
 (try clear hb)
 (try clear hb2)
 (try clear hk)
 (try clear hi)
 (try clear ho0)
 obtain ⟨Ao33, co33, eo33⟩ := Kd.R_slice HO204.out
 (first | subst eo33 | (injection eo33 with f1_ f2_ f3_; have f4_ := f1_.symm; have f5_ := f3_.symm; clear f1_ f2_ f3_; subst f4_; subst f5_))
 refine hK.out _ _ (b3A_ BK198 (b5A_ BK201 (cB_ hw205_0))) (fun hHeld => ?_)
 clear hK K
 refine nm_ 29 ?_
 refine oI_ 7 34 (bqz 9 255) (fun K hK => ?_)
 refine goes_ Try.func67 (by kernel_rfl) rfl #[.slice Ao33 t202.length co33, .int .i64 (rd l2 x22_2)] (by rfl) rfl rfl qz2 ?_
 with_reducible refine (impl_hasInt.calls k2 _ _ t202 (rd l2 x22_2) false _ ?side1 ?side2 A18.out).mono ?_
 (case side1 => repeat (first | exact (Kd.R_reads' HO204.out).2.2 | (with_reducible refine Kd.C_alloc ?_ _) | (with_reducible refine Kd.C_drewN ?_ _) | (with_reducible refine Kd.C_drew ?_)))
 (case side2 => exact (Kd.R_reads' HO204.out).2.1)
 rintro e w' ⟨rfl, ⟨nd, rfl⟩⟩
 refine ⟨_, rfl, ?_⟩
 refine hK.out _ _ (b3A_ BK198 (b5A_ BK201 (cB_ hw205_0))) (fun hHeld => ?_)
 clear hK K
 refine nm_ 34 ?_
 refine pI_ 8 35 (bqz 9 511) ?_
 refine done_ (done_of HT_.out (by kernel_rfl)) ?_
 try go_wp2
 go_ret
 exact ⟨qzw, qz1⟩
 }
 }
 {
 replace H := Option.bind_eq_some_iff.mp H
 obtain ⟨t207, A340, H⟩ := H
 have A34 := aM A340
 clear A340
 replace H := iB_ H
 rcases H with ⟨rfl, H⟩ | ⟨rfl, H⟩
 {
 obtain rfl := Option.some.inj H
 go_wp2_with (first | ((with_reducible refine gate_callee (f := 78) rfl ?_); refine goesL_ (some 39) rfl rfl Try.func78 (by kernel_rfl) rfl #[.slice A2 l2.length c2] rfl qz2 ?_; (with_reducible refine (impl_same.calls k2 _ _ l2 true _ ?_ ?_ A34.out).mono ?_); exact qz15; exact HC2.out; rintro e w' ⟨rfl, ⟨nd, rfl⟩⟩; refine ⟨_, rfl, ?_⟩))
 go_ret
 exact ⟨qzw, qz1⟩
 }
 {
 replace H := Option.bind_eq_some_iff.mp H
 obtain ⟨t208, A360, H⟩ := H
 have A36 := aM A360
 clear A360
 replace H := iB_ H
 rcases H with ⟨rfl, H⟩ | ⟨rfl, H⟩
 {
 obtain rfl := Option.some.inj H
 go_wp2_with (first | ((with_reducible refine gate_callee (f := 78) rfl ?_); refine goesL_ (some 39) rfl rfl Try.func78 (by kernel_rfl) rfl #[.slice A2 l2.length c2] rfl qz2 ?_; (with_reducible refine (impl_same.calls k2 _ _ l2 false _ ?_ ?_ A34.out).mono ?_); exact qz15; exact HC2.out; rintro e w' ⟨rfl, ⟨nd, rfl⟩⟩; refine ⟨_, rfl, ?_⟩) | ((with_reducible refine gate_callee (f := 79) rfl ?_); refine goesL_ (some 43) rfl rfl Try.func79 (by kernel_rfl) rfl #[.slice A1 l1.length c1, .slice A2 l2.length c2] rfl qz2 ?_; (with_reducible refine (impl_swaps.calls k2 _ _ l1 _ _ l2 true _ ?side1 ?side2 ?side3 ?side4 A36.out).mono ?_); (case side1 => repeat (first | exact (Kd.C_below HR1.out qz1) | (with_reducible refine Kd.C_alloc ?_ _) | (with_reducible refine Kd.C_drewN ?_ _) | (with_reducible refine Kd.C_drew ?_))); (case side2 => exact HC1.out); (case side3 => repeat (first | exact (Kd.C_below HR2.out qz1) | (with_reducible refine Kd.C_alloc ?_ _) | (with_reducible refine Kd.C_drewN ?_ _) | (with_reducible refine Kd.C_drew ?_))); (case side4 => exact HC2.out); rintro e w38 ⟨rfl, hb⟩; refine ⟨_, rfl, ?_⟩; replace BK198 := bB_ BK198 hb; replace HB := bS_ hb; (try clear hb)))
 go_ret
 exact ⟨qzw, qz1⟩
 }
 {
 obtain rfl := Option.some.inj H
 go_wp2_with (first | ((with_reducible refine gate_callee (f := 78) rfl ?_); refine goesL_ (some 39) rfl rfl Try.func78 (by kernel_rfl) rfl #[.slice A2 l2.length c2] rfl qz2 ?_; (with_reducible refine (impl_same.calls k2 _ _ l2 false _ ?_ ?_ A34.out).mono ?_); exact qz15; exact HC2.out; rintro e w' ⟨rfl, ⟨nd, rfl⟩⟩; refine ⟨_, rfl, ?_⟩) | ((with_reducible refine gate_callee (f := 79) rfl ?_); refine goesL_ (some 43) rfl rfl Try.func79 (by kernel_rfl) rfl #[.slice A1 l1.length c1, .slice A2 l2.length c2] rfl qz2 ?_; (with_reducible refine (impl_swaps.calls k2 _ _ l1 _ _ l2 false _ ?side1 ?side2 ?side3 ?side4 A36.out).mono ?_); (case side1 => repeat (first | exact (Kd.C_below HR1.out qz1) | (with_reducible refine Kd.C_alloc ?_ _) | (with_reducible refine Kd.C_drewN ?_ _) | (with_reducible refine Kd.C_drew ?_))); (case side2 => exact HC1.out); (case side3 => repeat (first | exact (Kd.C_below HR2.out qz1) | (with_reducible refine Kd.C_alloc ?_ _) | (with_reducible refine Kd.C_drewN ?_ _) | (with_reducible refine Kd.C_drew ?_))); (case side4 => exact HC2.out); rintro e w39 ⟨rfl, hb⟩; refine ⟨_, rfl, ?_⟩; replace BK198 := bB_ BK198 hb; replace HB := bS_ hb; (try clear hb)))
 go_ret
 exact ⟨qzw, qz1⟩
 }
 }
 }
 }
-- NOT PRINTED: function 104 (impl_mover_taken)

-- NOT PRINTED: function 105 (impl_mover_there)

-- NOT PRINTED: function 83 (impl_mover_choose)

end Go.Proofs.Ytankmdbbgepmbaa.PFnFirst
