-- Made by a program of this session out of the translation. Lean checks it.
import Derived.Test.YtankmdbbgepmbaaPFnLivelyx17
namespace Go.Proofs.Ytankmdbbgepmbaa.PFnLively
open Go.RowKit Go.Proofs.YtankmdbbgepmbaaW.PrintWords Go.Proofs.YtankmdbbgepmbaaW.PrintLast Go.Proofs.YtankmdbbgepmbaaW.PrintMore
attribute [local go_sem] max2_int min2_int max_two min_two max_three min_three max_four min_four   -- for this text's walks alone
set_option linter.unusedVariables false
set_option linter.unusedSimpArgs false

/-! ### spec_Cuts: function 129 -/
def spec_Cuts.l0 : Nat → List Int → Int → Int → Int → List Int → Option (List Int)
 | 0, _, _, _, _, _ => none
 | k + 1, x3, x4, x395000, x395001, x395002 => if x4 < (x395002.length : Int) then (if 0 ≤ x4 then (if (rd x395002 x4) = 0 then (spec_Cuts.l0 k x3 (wrap64 (x4 + 1)) x395000 x395001 x395002) else ((spec_l1Near.f k x395000 x395001 x395002 x4 false).bind fun t400 => ((spec_l2Reached.f k x395000 x395001 x395002 x4 (-1)).bind fun t403 => (if (t400.length : Int) > 1 then (if 0 < (t400.length : Int) then ((spec_l2Reached.f k x395000 x395001 x395002 (rd t400 0) x4).bind fun t405 => (if t405 = (wrap64 (t403 - 1)) then (spec_Cuts.l0 k x3 (wrap64 (x4 + 1)) x395000 x395001 x395002) else (if x3.length < 17592186044416 then (spec_Cuts.l0 k (x3 ++ [x4]) (wrap64 (x4 + 1)) x395000 x395001 x395002) else (none)))) else (none)) else (spec_Cuts.l0 k x3 (wrap64 (x4 + 1)) x395000 x395001 x395002))))) else (none)) else (some x3)
def spec_Cuts.f (k : Nat) (a0_0 : Int) (a0_1 : Int) (l0_2 : List Int) : Option (List Int) := (some (([] : List Int) : List Int)).bind fun y395 => ((spec_FloorOk.f k a0_0 a0_1 l0_2).bind fun t398 => (if t398 = true then (spec_Cuts.l0 k y395 0 a0_0 a0_1 l0_2) else (some y395)))
theorem spec_Cuts.mono_l : ∀ k, (∀ y0 y1 y2 y3 y4, LeO (spec_Cuts.l0 k y0 y1 y2 y3 y4) (spec_Cuts.l0 (k + 1) y0 y1 y2 y3 y4))
 | 0 => fun _ _ _ _ _ r h => by simp [spec_Cuts.l0] at h
 | k + 1 => by
  have ih0 := spec_Cuts.mono_l k
  {
  intro y0 y1 y2 y3 y4
  unfold spec_Cuts.l0
  have j0 := @spec_FloorOk.mono
  have j1 := @spec_l1Near.mono
  have j2 := @spec_l2Reached.mono
  exact qL
  }
theorem spec_Cuts.mono : ∀ a0 a1 a2 k, LeO (spec_Cuts.f k a0 a1 a2) (spec_Cuts.f (k + 1) a0 a1 a2) := by
 intro a0 a1 a2 k
 have ih0 := spec_Cuts.mono_l k
 unfold spec_Cuts.f
 have j0 := @spec_FloorOk.mono
 have j1 := @spec_l1Near.mono
 have j2 := @spec_l2Reached.mono
 exact qL
def spec_Cuts.T10 : Bool × List (List Nat × List Nat) := (true, [([], []), ([0], [0]), ([1], [1]), ([2], [2]), ([3], [3]), ([3], [3]), ([5, 3], [3, 5]), ([6, 3], [3, 6]), ([3], [3]), ([4, 7, 8, 3, 3], [3, 4, 7, 8]), ([3], [3]), ([10, 3], [3, 10]), ([9, 11, 3], [3, 9, 11]), ([3, 12], [3, 12])])
def spec_Cuts.B10 : List Nat := [0, 1, 3, 7, 15, 15, 47, 111, 15, 511, 15, 1039, 4095, 8191]
theorem spec_Cuts.tab10 : rtab .any (opsOf Try.f129 10) = spec_Cuts.T10 := by kernel_rfl
theorem spec_Cuts.bits10 : waitsOk spec_Cuts.T10.2 spec_Cuts.B10 = true := by kernel_rfl
set_option maxHeartbeats 8000000 in
set_option maxRecDepth 100000 in
theorem spec_Cuts.calls (k : Nat) (a0_0 : Int) (a0_1 : Int) (A0_2 : Option Addr) (c0_2 : Nat) (l0_2 : List Int) (r : List Int) (w : World) (hr0_2 : Kd.C (Kd.int .i64) w A0_2 l0_2.length l0_2) (hc0_2 : l0_2.length ≤ c0_2) (h : spec_Cuts.f k a0_0 a0_1 l0_2 = some r) :
  Calls Try.prog 129 #[.agg #[.int .i64 a0_0, .int .i64 a0_1, .slice A0_2 l0_2.length c0_2]] w fun e w' => ∃ v0_ : Value, e = .returned (v0_) ∧ Kd.R (Kd.int .i64) 3 w' w.heap.size (fun _ => True) v0_ r ∧ Below w.heap.size w w' := by
 have hu43 := Try.underlying43
 have HR0_2 := aM hr0_2
 have HC0_2 := aM hc0_2
 clear hr0_2 hc0_2
 have HB := aM (Below.refl w.heap.size w)
 unfold spec_Cuts.f at h
 have H := h
 clear h
 obtain ⟨y395, hy395⟩ : ∃ y_ : List Int, y_ = (([] : List Int)) := ⟨_, rfl⟩
 replace H := yB_ hy395 H
 have Ny395 := aM hy395
 clear hy395
 replace H := Option.bind_eq_some_iff.mp H
 obtain ⟨t398, A20, H⟩ := H
 have A2 := aM A20
 clear A20
 replace H := iB_ H
 rcases H with ⟨rfl, H⟩ | ⟨rfl, H⟩
 {
 have H' := aM H
 clear H
 go_enter Try.func129, Try.ntmps129
 go_wp2_with (first | ((with_reducible refine gate_dst (N := 1) rfl ?_); refine bx_ 1 #[.int .i64 a0_0, .int .i64 a0_1, .slice A0_2 l0_2.length c0_2] 43 ?_; intro gb394 hg w4 hbox hb; have BK394 := aM (hbox); have GW394 := aM (bz_ w hg qz1); have GE394 := GW394; replace HB := bS_ hb; clear hb hbox hg) | ((with_reducible refine gate_dst (N := 7) rfl ?_); refine Kd.R_lit (Kd.int .i64) _ 3 ?hg (N := 7) ?hd (xs := ([] : List Int)) (inner := []) (ok := fun _ => True) (okp := fun _ => True) ?hr ?hp (fun _ hk => hk) trivial (Below.refl _ _) (Nat.le_refl _) (by simp) ?_; (case hd => rfl); (case hg => rfl); (case hr => exact qz7); (case hp => exact (Reps.none _ _)); intro v396 w5 ho6 hb hg_ hnew_; clear hg_ hnew_; (first | rw [← Ny395.out] at ho6 | (simp only [Int.reduceToNat] at ho6; rw [← Ny395.out] at ho6)); have HO397 := aM (Kd.R_lower ho6 (below_size qz1)); replace BK394 := bB_ BK394 hb; replace HB := bS_ hb; clear hb ho6; obtain ⟨hcz7_0, hcz7_1, hcz7_2, hfz7_0, hfz7_1, hfz7_2⟩ := b6_ BK394.out) | ((with_reducible refine gate_callee (f := 60) rfl ?_); refine goesL_ (some 9) rfl rfl Try.func60 (by kernel_rfl) rfl #[.agg #[.int .i64 a0_0, .int .i64 a0_1, .slice A0_2 l0_2.length c0_2]] rfl qz2 ?_; (with_reducible refine (spec_FloorOk.calls k a0_0 a0_1 _ _ l0_2 true _ ?_ ?_ A2.out).mono ?_); exact qz5; exact qz14; rintro e w8 ⟨rfl, hb⟩; refine ⟨_, rfl, ?_⟩; replace HO397 := aM (Kd.R_below (rr_ HO397.out) hb); replace BK394 := bB_ BK394 hb; replace HB := bS_ hb; (try clear hb)))
 go_loopg [3, 4] k (fun kq v3 v4 w' => ∃ (x3_1 : List Int) (x4_1 : Int), v4 = .int .i64 x4_1 ∧ Aside0 (spec_Cuts.l0 kq x3_1 x4_1 a0_0 a0_1 l0_2 = some r) ∧ Aside0 (kq ≤ k) ∧ Aside0 (Kd.R (Kd.int .i64) 3 w' w.heap.size (fun _ => True) v3 x3_1) ∧ Aside0 (w'.heap[gb394]? = some (.cells #[.int .i64 a0_0, .int .i64 a0_1, (.slice A0_2 l0_2.length c0_2)] 43 (0, 0))) ∧ Aside0 (Below w.heap.size w w'))
 case atStart => exact ⟨(y395), (0), qz6, H', ⟨Nat.le_refl _⟩, ⟨rr_ HO397.out⟩, ⟨bk_ BK394.out⟩, ⟨qz1⟩⟩
 case round =>
 clear H'
 try clear c3
 try clear hcz7_0 hcz7_1 hcz7_2 hfz7_0 hfz7_1 hfz7_2
 obtain ⟨x3_1, x4_1, rfl, HA, HK1, HO_3, BK394, HB⟩ := hrel
 cases gk with
 | zero => exact absurd HA.out (by simp [spec_Cuts.l0])
 | succ k1 =>
 have H := HA.out
 clear HA
 simp only [spec_Cuts.l0] at H
 replace H := iE_ H
 rcases H with ⟨c9b0, H⟩ | ⟨c9b0, H⟩
 {
 replace H := iD_ H
 obtain ⟨c10b0, H⟩ := H
 replace H := iQ_ H
 rcases H with ⟨c11b0, c11b1, H⟩ | ⟨c11, c11b0, c11b1, H⟩
 {
 have H' := aM H
 clear H
 obtain ⟨hcz12_0, hcz12_1, hcz12_2, hfz12_0, hfz12_1, hfz12_2⟩ := b6_ BK394.out
 have p399 : (0 ≤ (x4_1 : Int)) = True := et_
 have q399 : (x4_1 < (l0_2.length : Int)) = True := et_
 obtain ⟨ad399, e399, hx399_0⟩ := Kd.at_int HR0_2.out x4_1 dt_ dt_
 cases e399
 replace hx399_0 := cB_ hx399_0
 go_wp2
 go_roundg k1
 case measure => have := HK1.out; omega
 case rel => exact ⟨(x3_1), (wrap64 (x4_1 + 1)), qz6, H', ⟨by have := HK1.out; omega⟩, ⟨rm_ HO_3.out⟩, ⟨bk_ BK394.out⟩, ⟨qz1⟩⟩
 }
 {
 replace H := Option.bind_eq_some_iff.mp H
 obtain ⟨t400, A130, H⟩ := H
 have A13 := aM A130
 clear A130
 replace H := Option.bind_eq_some_iff.mp H
 obtain ⟨t403, A140, H⟩ := H
 have A14 := aM A140
 clear A140
 replace H := iS_ H
 rcases H with ⟨c15, H⟩ | ⟨c15, H⟩
 {
 have c15b0 := decide_eq_true c15
 have c15b1 : decide (1 < t400.length) = true := decide_eq_true (by omega)
 clear c15
 replace H := iN_ H
 obtain ⟨c16, H⟩ := H
 have c16b0 := decide_eq_true c16
 have c16b1 : decide (0 < t400.length) = true := decide_eq_true (by omega)
 clear c16
 replace H := Option.bind_eq_some_iff.mp H
 obtain ⟨t405, A170, H⟩ := H
 have A17 := aM A170
 clear A170
 replace H := iQ_ H
 rcases H with ⟨c18b0, c18b1, H⟩ | ⟨c18, c18b0, c18b1, H⟩
 {
 have H' := aM H
 clear H
 obtain ⟨hcz19_0, hcz19_1, hcz19_2, hfz19_0, hfz19_1, hfz19_2⟩ := b6_ BK394.out
 have p399 : (0 ≤ (x4_1 : Int)) = True := et_
 have q399 : (x4_1 < (l0_2.length : Int)) = True := et_
 obtain ⟨ad399, e399, hx399_0⟩ := Kd.at_int HR0_2.out x4_1 dt_ dt_
 cases e399
 replace hx399_0 := cB_ hx399_0
 try go_wp2_with (first | ((with_reducible refine gate_callee (f := 99) rfl ?_); refine goesL_ (some 27) rfl rfl Try.func99 (by kernel_rfl) rfl #[.agg #[.int .i64 a0_0, .int .i64 a0_1, .slice (some ad399) l0_2.length c0_2], .int .i64 x4_1, .bool false] rfl qz2 ?_; (with_reducible refine (spec_l1Near.calls k1 a0_0 a0_1 _ _ l0_2 x4_1 false t400 _ ?_ ?_ A13.out).mono ?_); exact qz5; exact qz14; rintro e w20 ⟨v401, rfl, ho0, hb⟩; refine ⟨_, rfl, ?_⟩; have HO402 := aM (Kd.R_lower (Kd.R_new' ho0 (Kd.R_lt (rr_ HO_3.out))) (below_size qz1)); replace HO_3 := aM (Kd.R_elder' (rr_ HO_3.out) (Kd.R_base ho0) hb); replace BK394 := bB_ BK394 hb; replace HB := bS_ hb; (try clear hb ho0); obtain ⟨hcz21_0, hcz21_1, hcz21_2, hfz21_0, hfz21_1, hfz21_2⟩ := b6_ BK394.out) | ((with_reducible refine gate_callee (f := 132) rfl ?_); refine goesL_ (some 30) rfl rfl Try.func132 (by kernel_rfl) rfl #[.agg #[.int .i64 a0_0, .int .i64 a0_1, .slice (some ad399) l0_2.length c0_2], .int .i64 x4_1, .int .i64 (-1)] rfl qz2 ?_; (with_reducible refine (spec_l2Reached.calls k1 a0_0 a0_1 _ _ l0_2 x4_1 (-1) t403 _ ?_ ?_ A14.out).mono ?_); exact qz5; exact qz14; rintro e w22 ⟨rfl, hb⟩; refine ⟨_, rfl, ?_⟩; replace HO_3 := aM (Kd.R_below (rr_ HO_3.out) hb); replace HO402 := aM (Kd.R_below (rr_ HO402.out) hb); replace BK394 := bB_ BK394 hb; replace HB := bS_ hb; (try clear hb)))
 replace HO_3 := aM (Kd.R_drew HO_3.out)
 replace HO402 := aM (Kd.R_drew HO402.out)
 replace BK394 := aM (blk_drew BK394.out)
 replace HB := aM (below_drew1 HB.out)
 obtain ⟨Ao24, co24, eo24⟩ := Kd.R_slice HO402.out
 (first | subst eo24 | (injection eo24 with f1_ f2_ f3_; have f4_ := f1_.symm; have f5_ := f3_.symm; clear f1_ f2_ f3_; subst f4_; subst f5_))
 have p404 : 0 ≤ (0 : Int) := (by omega)
 have q404 : 0 < (t400.length : Int) := dt_
 obtain ⟨ad404, e404, hx404_0⟩ := Kd.at_int (Kd.R_reads' HO402.out).2.2 0 p404 q404
 cases e404
 have qi404 : (0 < t400.length) = True := eq_true (by omega)
 (try rw [show ((0 : Int)).toNat = 0 from rfl] at hx404_0)
 (try rw [Addr.add_zero'] at hx404_0)
 replace p404 := eq_true p404
 replace q404 := eq_true q404
 refine start_ (n := 14) (S := fun w' => w'.cell? ⟨gb394, 0, none⟩ = some (.int .i64 a0_0) ∧ w'.cell? ⟨gb394, 1, none⟩ = some (.int .i64 a0_1) ∧ w'.cell? ⟨gb394, 2, none⟩ = some (.slice (some ad399) l0_2.length c0_2) ∧ w'.cell? ad404 = some (.int .i64 (rd t400 0))) (ds := []) #[false, false, false, false, false, false, false, false, false, false, false, false, false, false] (by kernel_rfl) rfl rfl ⟨(blk_cell BK394.out 0).trans rfl, (blk_cell BK394.out 1).trans rfl, (blk_cell BK394.out 2).trans rfl, hx404_0⟩ (fun hHeld => ?_); refine with_tabW spec_Cuts.tab10 spec_Cuts.bits10 (fun HT_ HW_ => ?_)
 generalize w22.drew = w23 at HO_3 HO402 BK394 HB hx404_0 hHeld ⊢
 refine pI_ 0 31 (bqz 14 1) ?_
 refine jI_ 1 32 ?_
 refine jI_ 2 33 ?_
 refine jI_ 3 34 ?_
 refine jI_ 5 36 ?_
 refine jI_ 6 37 ?_
 refine jI_ 8 39 ?_
 refine jI_ 10 41 ?_
 refine jI_ 11 42 ?_
 refine sI4_ 4 35 ?_
 refine sI4_ 7 38 ?_
 refine oI_ 9 40 (bqz 14 4095) (fun K hK => ?_)
 refine goes_ Try.func132 (by kernel_rfl) rfl #[.agg #[.int .i64 a0_0, .int .i64 a0_1, .slice (some ad399) l0_2.length c0_2], .int .i64 (rd t400 0), .int .i64 x4_1] (by rfl) rfl rfl qz2 ?_
 with_reducible refine (spec_l2Reached.calls k1 a0_0 a0_1 _ _ l0_2 (rd t400 0) x4_1 t405 _ ?side1 ?side2 A17.out).mono ?_
 (case side1 => exact qz5)
 (case side2 => exact qz14)
 rintro e w25 ⟨rfl, hb⟩
 have HS3_ := (hb.cell (World.block_lt_of_cell? _ _ (hHeld.2.2.2))).trans (hHeld.2.2.2)
 refine ⟨_, rfl, ?_⟩
 replace HO_3 := aM (Kd.R_below (rr_ HO_3.out) hb)
 replace HO402 := aM (Kd.R_below (rr_ HO402.out) hb)
 replace BK394 := bB_ BK394 hb
 replace HB := bS_ hb
 (try clear hb)
 (try clear hb2)
 (try clear hk)
 (try clear hi)
 refine hK.out _ _ (b3A_ BK394 HS3_) (fun hHeld => ?_)
 clear hK K
 refine nm_ 40 ?_
 refine pI_ 12 43 (bqz 14 8191) ?_
 refine jI_ 13 44 ?_
 refine done_ (done_of HT_.out (by kernel_rfl)) ?_
 try go_wp2
 go_roundg k1
 case measure => have := HK1.out; omega
 case rel => exact ⟨(x3_1), (wrap64 (x4_1 + 1)), qz6, H', ⟨by have := HK1.out; omega⟩, ⟨by (with_reducible repeat (first | apply Kd.R_alloc | apply Kd.R_drewN | apply Kd.R_drew)); exact Kd.R_mono HO_3.out (fun _ hk => trivial)⟩, ⟨bk_ BK394.out⟩, ⟨qz1⟩⟩
 }
 {
 replace H := iN_ H
 obtain ⟨c26, H⟩ := H
 have LMc26 := aM c26
 clear c26
 obtain ⟨y406, hy406⟩ : ∃ y_ : List Int, y_ = (x3_1 ++ [x4_1]) := ⟨_, rfl⟩
 replace H : (spec_Cuts.l0 k1 y406 (wrap64 (x4_1 + 1)) a0_0 a0_1 l0_2) = some r := by first | (rw [hy406]; exact H) | exact H
 have Ny406 := aM hy406
 clear hy406
 have H' := aM H
 clear H
 obtain ⟨hcz27_0, hcz27_1, hcz27_2, hfz27_0, hfz27_1, hfz27_2⟩ := b6_ BK394.out
 have p399 : (0 ≤ (x4_1 : Int)) = True := et_
 have q399 : (x4_1 < (l0_2.length : Int)) = True := et_
 obtain ⟨ad399, e399, hx399_0⟩ := Kd.at_int HR0_2.out x4_1 dt_ dt_
 cases e399
 replace hx399_0 := cB_ hx399_0
 try go_wp2_with (first | ((with_reducible refine gate_callee (f := 99) rfl ?_); refine goesL_ (some 27) rfl rfl Try.func99 (by kernel_rfl) rfl #[.agg #[.int .i64 a0_0, .int .i64 a0_1, .slice (some ad399) l0_2.length c0_2], .int .i64 x4_1, .bool false] rfl qz2 ?_; (with_reducible refine (spec_l1Near.calls k1 a0_0 a0_1 _ _ l0_2 x4_1 false t400 _ ?_ ?_ A13.out).mono ?_); exact qz5; exact qz14; rintro e w28 ⟨v401, rfl, ho0, hb⟩; refine ⟨_, rfl, ?_⟩; have HO402 := aM (Kd.R_lower (Kd.R_new' ho0 (Kd.R_lt (rr_ HO_3.out))) (below_size qz1)); replace HO_3 := aM (Kd.R_elder' (rr_ HO_3.out) (Kd.R_base ho0) hb); replace BK394 := bB_ BK394 hb; replace HB := bS_ hb; (try clear hb ho0); obtain ⟨hcz29_0, hcz29_1, hcz29_2, hfz29_0, hfz29_1, hfz29_2⟩ := b6_ BK394.out) | ((with_reducible refine gate_callee (f := 132) rfl ?_); refine goesL_ (some 30) rfl rfl Try.func132 (by kernel_rfl) rfl #[.agg #[.int .i64 a0_0, .int .i64 a0_1, .slice (some ad399) l0_2.length c0_2], .int .i64 x4_1, .int .i64 (-1)] rfl qz2 ?_; (with_reducible refine (spec_l2Reached.calls k1 a0_0 a0_1 _ _ l0_2 x4_1 (-1) t403 _ ?_ ?_ A14.out).mono ?_); exact qz5; exact qz14; rintro e w30 ⟨rfl, hb⟩; refine ⟨_, rfl, ?_⟩; replace HO_3 := aM (Kd.R_below (rr_ HO_3.out) hb); replace HO402 := aM (Kd.R_below (rr_ HO402.out) hb); replace BK394 := bB_ BK394 hb; replace HB := bS_ hb; (try clear hb)))
 replace HO_3 := aM (Kd.R_drew HO_3.out)
 replace HO402 := aM (Kd.R_drew HO402.out)
 replace BK394 := aM (blk_drew BK394.out)
 replace HB := aM (below_drew1 HB.out)
 obtain ⟨Ao32, co32, eo32⟩ := Kd.R_slice HO402.out
 (first | subst eo32 | (injection eo32 with f1_ f2_ f3_; have f4_ := f1_.symm; have f5_ := f3_.symm; clear f1_ f2_ f3_; subst f4_; subst f5_))
 have p404 : 0 ≤ (0 : Int) := (by omega)
 have q404 : 0 < (t400.length : Int) := dt_
 obtain ⟨ad404, e404, hx404_0⟩ := Kd.at_int (Kd.R_reads' HO402.out).2.2 0 p404 q404
 cases e404
 have qi404 : (0 < t400.length) = True := eq_true (by omega)
 (try rw [show ((0 : Int)).toNat = 0 from rfl] at hx404_0)
 (try rw [Addr.add_zero'] at hx404_0)
 replace p404 := eq_true p404
 replace q404 := eq_true q404
 refine start_ (n := 14) (S := fun w' => w'.cell? ⟨gb394, 0, none⟩ = some (.int .i64 a0_0) ∧ w'.cell? ⟨gb394, 1, none⟩ = some (.int .i64 a0_1) ∧ w'.cell? ⟨gb394, 2, none⟩ = some (.slice (some ad399) l0_2.length c0_2) ∧ w'.cell? ad404 = some (.int .i64 (rd t400 0))) (ds := []) #[false, false, false, false, false, false, false, false, false, false, false, false, false, false] (by kernel_rfl) rfl rfl ⟨(blk_cell BK394.out 0).trans rfl, (blk_cell BK394.out 1).trans rfl, (blk_cell BK394.out 2).trans rfl, hx404_0⟩ (fun hHeld => ?_); refine with_tabW spec_Cuts.tab10 spec_Cuts.bits10 (fun HT_ HW_ => ?_)
 generalize w30.drew = w31 at HO_3 HO402 BK394 HB hx404_0 hHeld ⊢
 refine pI_ 0 31 (bqz 14 1) ?_
 refine jI_ 1 32 ?_
 refine jI_ 2 33 ?_
 refine jI_ 3 34 ?_
 refine jI_ 5 36 ?_
 refine jI_ 6 37 ?_
 refine jI_ 8 39 ?_
 refine jI_ 10 41 ?_
 refine jI_ 11 42 ?_
 refine sI4_ 4 35 ?_
 refine sI4_ 7 38 ?_
 refine oI_ 9 40 (bqz 14 4095) (fun K hK => ?_)
 refine goes_ Try.func132 (by kernel_rfl) rfl #[.agg #[.int .i64 a0_0, .int .i64 a0_1, .slice (some ad399) l0_2.length c0_2], .int .i64 (rd t400 0), .int .i64 x4_1] (by rfl) rfl rfl qz2 ?_
 with_reducible refine (spec_l2Reached.calls k1 a0_0 a0_1 _ _ l0_2 (rd t400 0) x4_1 t405 _ ?side1 ?side2 A17.out).mono ?_
 (case side1 => exact qz5)
 (case side2 => exact qz14)
 rintro e w33 ⟨rfl, hb⟩
 have HS3_ := (hb.cell (World.block_lt_of_cell? _ _ (hHeld.2.2.2))).trans (hHeld.2.2.2)
 refine ⟨_, rfl, ?_⟩
 replace HO_3 := aM (Kd.R_below (rr_ HO_3.out) hb)
 replace HO402 := aM (Kd.R_below (rr_ HO402.out) hb)
 replace BK394 := bB_ BK394 hb
 replace HB := bS_ hb
 (try clear hb)
 (try clear hb2)
 (try clear hk)
 (try clear hi)
 refine hK.out _ _ (b3A_ BK394 HS3_) (fun hHeld => ?_)
 clear hK K
 refine nm_ 40 ?_
 refine pI_ 12 43 (bqz 14 8191) ?_
 refine jI_ 13 44 ?_
 refine done_ (done_of HT_.out (by kernel_rfl)) ?_
 try go_wp2_with (first | ((with_reducible refine gate_builtin (b := .append) (xs := #[.tmp 45, .tmp 47]) rfl ?_); at_builtin; refine Kd.R_append (Kd.int .i64) (w0 := w) w.heap.size rfl (.tmp 45) (.tmp 47) 24 3 (.int .i64 0) 8 rfl Try.underlying24 info3 rfl (by decide) (by omega) u3 x3_1 x4_1 [.int .i64 x4_1] (fun k_ => some k_ ≠ (.slice (some ad404) t400.length co32 : Value).ownBlock) (fun _ => False) rfl rfl ?aP (fun _ hk => hk.elim) ?aF ?aO ?aB ?aS ?aL ?_; (case aP => exact rfl); (case aB => exact qz1); (case aF => exact (fun k_ hk => Kd.fresh' (Kd.R_lt (rr_ HO402.out)) k_ hk)); (case aO => exact (by (with_reducible repeat (first | apply Kd.R_alloc | apply Kd.R_drewN | apply Kd.R_drew)); exact Kd.R_mono HO_3.out (fun _ hk => hk.2))); (case aS => exact qz19); (case aL => have := LMc26.out; omega); intro v407 w34 ho hb hg hat; rw [← Ny406.out] at ho; replace BK394 := aM (blk_grown (bk_ BK394.out) hg (Kd.R_ne HO_3.out BK394.out (by decide))); replace HO402 := aM (Kd.R_after (ok := (fun _ => True)) (rr_ HO402.out) hg hat); replace HB := aM (hb); have HO408 := aM (ho); clear HO_3; clear ho hb hg hat))
 go_roundg k1
 case measure => have := HK1.out; omega
 case rel => exact ⟨(y406), (wrap64 (x4_1 + 1)), qz6, H', ⟨by have := HK1.out; omega⟩, ⟨by (with_reducible repeat (first | apply Kd.R_alloc | apply Kd.R_drewN | apply Kd.R_drew)); exact Kd.R_mono HO408.out (fun _ hk => trivial)⟩, ⟨bk_ BK394.out⟩, ⟨qz1⟩⟩
 }
 }
 {
 have c15b0 := decide_eq_false c15
 have c15b1 : decide (1 < t400.length) = false := decide_eq_false (by omega)
 clear c15
 have H' := aM H
 clear H
 obtain ⟨hcz35_0, hcz35_1, hcz35_2, hfz35_0, hfz35_1, hfz35_2⟩ := b6_ BK394.out
 have p399 : (0 ≤ (x4_1 : Int)) = True := et_
 have q399 : (x4_1 < (l0_2.length : Int)) = True := et_
 obtain ⟨ad399, e399, hx399_0⟩ := Kd.at_int HR0_2.out x4_1 dt_ dt_
 cases e399
 replace hx399_0 := cB_ hx399_0
 try go_wp2_with (first | ((with_reducible refine gate_callee (f := 99) rfl ?_); refine goesL_ (some 27) rfl rfl Try.func99 (by kernel_rfl) rfl #[.agg #[.int .i64 a0_0, .int .i64 a0_1, .slice (some ad399) l0_2.length c0_2], .int .i64 x4_1, .bool false] rfl qz2 ?_; (with_reducible refine (spec_l1Near.calls k1 a0_0 a0_1 _ _ l0_2 x4_1 false t400 _ ?_ ?_ A13.out).mono ?_); exact qz5; exact qz14; rintro e w36 ⟨v401, rfl, ho0, hb⟩; refine ⟨_, rfl, ?_⟩; have HO402 := aM (Kd.R_lower (Kd.R_new' ho0 (Kd.R_lt (rr_ HO_3.out))) (below_size qz1)); replace HO_3 := aM (Kd.R_elder' (rr_ HO_3.out) (Kd.R_base ho0) hb); replace BK394 := bB_ BK394 hb; replace HB := bS_ hb; (try clear hb ho0); obtain ⟨hcz37_0, hcz37_1, hcz37_2, hfz37_0, hfz37_1, hfz37_2⟩ := b6_ BK394.out) | ((with_reducible refine gate_callee (f := 132) rfl ?_); refine goesL_ (some 30) rfl rfl Try.func132 (by kernel_rfl) rfl #[.agg #[.int .i64 a0_0, .int .i64 a0_1, .slice (some ad399) l0_2.length c0_2], .int .i64 x4_1, .int .i64 (-1)] rfl qz2 ?_; (with_reducible refine (spec_l2Reached.calls k1 a0_0 a0_1 _ _ l0_2 x4_1 (-1) t403 _ ?_ ?_ A14.out).mono ?_); exact qz5; exact qz14; rintro e w38 ⟨rfl, hb⟩; refine ⟨_, rfl, ?_⟩; replace HO_3 := aM (Kd.R_below (rr_ HO_3.out) hb); replace HO402 := aM (Kd.R_below (rr_ HO402.out) hb); replace BK394 := bB_ BK394 hb; replace HB := bS_ hb; (try clear hb)))
 replace HO_3 := aM (Kd.R_drew HO_3.out)
 replace HO402 := aM (Kd.R_drew HO402.out)
 replace BK394 := aM (blk_drew BK394.out)
 replace HB := aM (below_drew1 HB.out)
 obtain ⟨Ao40, co40, eo40⟩ := Kd.R_slice HO402.out
 (first | subst eo40 | (injection eo40 with f1_ f2_ f3_; have f4_ := f1_.symm; have f5_ := f3_.symm; clear f1_ f2_ f3_; subst f4_; subst f5_))
 refine start_ (n := 14) (S := fun w' => True) (ds := []) #[false, false, false, false, false, false, false, false, false, false, false, false, false, false] (by kernel_rfl) rfl rfl trivial (fun hHeld => ?_); refine with_tabW spec_Cuts.tab10 spec_Cuts.bits10 (fun HT_ HW_ => ?_)
 generalize w38.drew = w39 at HO_3 HO402 BK394 HB hHeld ⊢
 refine pI_ 0 31 (bqz 14 1) ?_
 refine jI_ 1 32 ?_
 refine jI_ 2 33 ?_
 refine jI_ 3 34 ?_
 refine jU_ 4 35 ?_
 refine jU_ 5 36 ?_
 refine jU_ 6 37 ?_
 refine jU_ 7 38 ?_
 refine jU_ 8 39 ?_
 refine jU_ 9 40 ?_
 refine jU_ 10 41 ?_
 refine jU_ 11 42 ?_
 refine jU_ 12 43 ?_
 refine jI_ 13 44 ?_
 refine done_ (done_of HT_.out (by kernel_rfl)) ?_
 try go_wp2
 go_roundg k1
 case measure => have := HK1.out; omega
 case rel => exact ⟨(x3_1), (wrap64 (x4_1 + 1)), qz6, H', ⟨by have := HK1.out; omega⟩, ⟨by (with_reducible repeat (first | apply Kd.R_alloc | apply Kd.R_drewN | apply Kd.R_drew)); exact Kd.R_mono HO_3.out (fun _ hk => trivial)⟩, ⟨bk_ BK394.out⟩, ⟨qz1⟩⟩
 }
 }
 }
 {
 obtain rfl := Option.some.inj H
 obtain ⟨hcz41_0, hcz41_1, hcz41_2, hfz41_0, hfz41_1, hfz41_2⟩ := b6_ BK394.out
 go_wp2
 go_ret
 exact ⟨_, qzw, by (with_reducible repeat (first | apply Kd.R_alloc | apply Kd.R_drewN | apply Kd.R_drew)); exact HO_3.out, qz1⟩
 }
 }
 {
 obtain rfl := Option.some.inj H
 go_enter Try.func129, Try.ntmps129
 go_wp2_with (first | ((with_reducible refine gate_dst (N := 1) rfl ?_); refine bx_ 1 #[.int .i64 a0_0, .int .i64 a0_1, .slice A0_2 l0_2.length c0_2] 43 ?_; intro gb394 hg w42 hbox hb; have BK394 := aM (hbox); have GW394 := aM (bz_ w hg qz1); have GE394 := GW394; replace HB := bS_ hb; clear hb hbox hg) | ((with_reducible refine gate_dst (N := 7) rfl ?_); refine Kd.R_lit (Kd.int .i64) _ 3 ?hg (N := 7) ?hd (xs := ([] : List Int)) (inner := []) (ok := fun _ => True) (okp := fun _ => True) ?hr ?hp (fun _ hk => hk) trivial (Below.refl _ _) (Nat.le_refl _) (by simp) ?_; (case hd => rfl); (case hg => rfl); (case hr => exact qz7); (case hp => exact (Reps.none _ _)); intro v396 w43 ho44 hb hg_ hnew_; clear hg_ hnew_; (first | rw [← Ny395.out] at ho44 | (simp only [Int.reduceToNat] at ho44; rw [← Ny395.out] at ho44)); have HO397 := aM (Kd.R_lower ho44 (below_size qz1)); replace BK394 := bB_ BK394 hb; replace HB := bS_ hb; clear hb ho44; obtain ⟨hcz45_0, hcz45_1, hcz45_2, hfz45_0, hfz45_1, hfz45_2⟩ := b6_ BK394.out) | ((with_reducible refine gate_callee (f := 60) rfl ?_); refine goesL_ (some 9) rfl rfl Try.func60 (by kernel_rfl) rfl #[.agg #[.int .i64 a0_0, .int .i64 a0_1, .slice A0_2 l0_2.length c0_2]] rfl qz2 ?_; (with_reducible refine (spec_FloorOk.calls k a0_0 a0_1 _ _ l0_2 false _ ?_ ?_ A2.out).mono ?_); exact qz5; exact qz14; rintro e w46 ⟨rfl, hb⟩; refine ⟨_, rfl, ?_⟩; replace HO397 := aM (Kd.R_below (rr_ HO397.out) hb); replace BK394 := bB_ BK394 hb; replace HB := bS_ hb; (try clear hb)))
 go_ret
 exact ⟨_, qzw, by (with_reducible repeat (first | apply Kd.R_alloc | apply Kd.R_drewN | apply Kd.R_drew)); exact HO397.out, qz1⟩
 }
/-! ### spec_Sound: function 109 -/
def spec_Sound.f (k : Nat) (a0_0 : Int) (a0_1 : Int) (l0_2 : List Int) : Option (Bool) := (spec_Together.f k a0_0 a0_1 l0_2).bind fun t410 => (if t410 = true then ((spec_l2Free.f k a0_0 a0_1 l0_2).bind fun t411 => (if (t411.length : Int) ≥ 4 then ((spec_Cuts.f k a0_0 a0_1 l0_2).bind fun t414 => (some ((t414.length : Int) == 0))) else (some false))) else (some false))
theorem spec_Sound.mono : ∀ a0 a1 a2 k, LeO (spec_Sound.f k a0 a1 a2) (spec_Sound.f (k + 1) a0 a1 a2) := by
 intro a0 a1 a2 k
 unfold spec_Sound.f
 have j0 := @spec_Cuts.mono
 have j1 := @spec_Together.mono
 have j2 := @spec_l2Free.mono
 exact qL
set_option maxHeartbeats 8000000 in
set_option maxRecDepth 100000 in
theorem spec_Sound.calls (k : Nat) (a0_0 : Int) (a0_1 : Int) (A0_2 : Option Addr) (c0_2 : Nat) (l0_2 : List Int) (r : Bool) (w : World) (hr0_2 : Kd.C (Kd.int .i64) w A0_2 l0_2.length l0_2) (hc0_2 : l0_2.length ≤ c0_2) (h : spec_Sound.f k a0_0 a0_1 l0_2 = some r) :
  Calls Try.prog 109 #[.agg #[.int .i64 a0_0, .int .i64 a0_1, .slice A0_2 l0_2.length c0_2]] w fun e w' => e = .returned (.bool r) ∧ Below w.heap.size w w' := by
 have hu43 := Try.underlying43
 have HR0_2 := aM hr0_2
 have HC0_2 := aM hc0_2
 clear hr0_2 hc0_2
 have HB := aM (Below.refl w.heap.size w)
 unfold spec_Sound.f at h
 have H := h
 clear h
 replace H := Option.bind_eq_some_iff.mp H
 obtain ⟨t410, A20, H⟩ := H
 have A2 := aM A20
 clear A20
 replace H := iB_ H
 rcases H with ⟨rfl, H⟩ | ⟨rfl, H⟩
 {
 replace H := Option.bind_eq_some_iff.mp H
 obtain ⟨t411, A40, H⟩ := H
 have A4 := aM A40
 clear A40
 replace H := iS_ H
 rcases H with ⟨c5, H⟩ | ⟨c5, H⟩
 {
 have c5b0 := decide_eq_true c5
 have c5b1 : decide (4 ≤ t411.length) = true := decide_eq_true (by omega)
 clear c5
 replace H := Option.bind_eq_some_iff.mp H
 obtain ⟨t414, A60, H⟩ := H
 have A6 := aM A60
 clear A60
 obtain rfl := Option.some.inj H
 go_enter Try.func109, Try.ntmps109
 go_wp2_with (first | ((with_reducible refine gate_dst (N := 1) rfl ?_); (try (refine gate_guard (by rfl) ?_; dsimp only)); refine bx_ 1 #[.int .i64 a0_0, .int .i64 a0_1, .slice A0_2 l0_2.length c0_2] 43 ?_; intro gb409 hg w7 hbox hb; have BK409 := aM (hbox); have GW409 := aM (bz_ w hg qz1); have GE409 := GW409; replace HB := bS_ hb; clear hb hbox hg; obtain ⟨hcz8_0, hcz8_1, hcz8_2, hfz8_0, hfz8_1, hfz8_2⟩ := b6_ BK409.out) | ((with_reducible refine gate_callee (f := 128) rfl ?_); refine goesL_ (some 4) rfl rfl Try.func128 (by kernel_rfl) rfl #[.agg #[.int .i64 a0_0, .int .i64 a0_1, .slice A0_2 l0_2.length c0_2]] rfl qz2 ?_; (with_reducible refine (spec_Together.calls k a0_0 a0_1 _ _ l0_2 true _ ?_ ?_ A2.out).mono ?_); exact qz5; exact qz14; rintro e w9 ⟨rfl, hb⟩; refine ⟨_, rfl, ?_⟩; replace BK409 := bB_ BK409 hb; replace HB := bS_ hb; (try clear hb); obtain ⟨hcz10_0, hcz10_1, hcz10_2, hfz10_0, hfz10_1, hfz10_2⟩ := b6_ BK409.out) | (go_at_call 108; (with_reducible refine (spec_l2Free.calls k a0_0 a0_1 _ _ l0_2 t411 _ ?_ ?_ A4.out).mono ?_); exact qz5; exact qz14; rintro e w11 ⟨v412, rfl, ho0, hb⟩; have HO413 := aM (Kd.R_lower ho0 (below_size qz1)); replace BK409 := bB_ BK409 hb; replace HB := bS_ hb; (try clear hb ho0); obtain ⟨Ao12, co12, eo12⟩ := Kd.R_slice HO413.out; subst eo12; obtain ⟨hcz13_0, hcz13_1, hcz13_2, hfz13_0, hfz13_1, hfz13_2⟩ := b6_ BK409.out) | (go_at_call 129; (with_reducible refine (spec_Cuts.calls k a0_0 a0_1 _ _ l0_2 t414 _ ?_ ?_ A6.out).mono ?_); exact qz5; exact qz14; rintro e w14 ⟨v415, rfl, ho0, hb⟩; have HO416 := aM (Kd.R_lower (Kd.R_new' ho0 (Kd.R_lt (rr_ HO413.out))) (below_size qz1)); replace HO413 := aM (Kd.R_elder' (rr_ HO413.out) (Kd.R_base ho0) hb); replace BK409 := bB_ BK409 hb; replace HB := bS_ hb; (try clear hb ho0); obtain ⟨Ao15, co15, eo15⟩ := Kd.R_slice HO416.out; subst eo15))
 go_ret
 exact ⟨qzw, qz1⟩
 }
 {
 have c5b0 := decide_eq_false c5
 have c5b1 : decide (4 ≤ t411.length) = false := decide_eq_false (by omega)
 clear c5
 obtain rfl := Option.some.inj H
 go_enter Try.func109, Try.ntmps109
 go_wp2_with (first | ((with_reducible refine gate_dst (N := 1) rfl ?_); (try (refine gate_guard (by rfl) ?_; dsimp only)); refine bx_ 1 #[.int .i64 a0_0, .int .i64 a0_1, .slice A0_2 l0_2.length c0_2] 43 ?_; intro gb409 hg w16 hbox hb; have BK409 := aM (hbox); have GW409 := aM (bz_ w hg qz1); have GE409 := GW409; replace HB := bS_ hb; clear hb hbox hg; obtain ⟨hcz17_0, hcz17_1, hcz17_2, hfz17_0, hfz17_1, hfz17_2⟩ := b6_ BK409.out) | ((with_reducible refine gate_callee (f := 128) rfl ?_); refine goesL_ (some 4) rfl rfl Try.func128 (by kernel_rfl) rfl #[.agg #[.int .i64 a0_0, .int .i64 a0_1, .slice A0_2 l0_2.length c0_2]] rfl qz2 ?_; (with_reducible refine (spec_Together.calls k a0_0 a0_1 _ _ l0_2 true _ ?_ ?_ A2.out).mono ?_); exact qz5; exact qz14; rintro e w18 ⟨rfl, hb⟩; refine ⟨_, rfl, ?_⟩; replace BK409 := bB_ BK409 hb; replace HB := bS_ hb; (try clear hb); obtain ⟨hcz19_0, hcz19_1, hcz19_2, hfz19_0, hfz19_1, hfz19_2⟩ := b6_ BK409.out) | (go_at_call 108; (with_reducible refine (spec_l2Free.calls k a0_0 a0_1 _ _ l0_2 t411 _ ?_ ?_ A4.out).mono ?_); exact qz5; exact qz14; rintro e w20 ⟨v412, rfl, ho0, hb⟩; have HO413 := aM (Kd.R_lower ho0 (below_size qz1)); replace BK409 := bB_ BK409 hb; replace HB := bS_ hb; (try clear hb ho0); obtain ⟨Ao21, co21, eo21⟩ := Kd.R_slice HO413.out; subst eo21))
 go_ret
 exact ⟨qzw, qz1⟩
 }
 }
 {
 obtain rfl := Option.some.inj H
 go_enter Try.func109, Try.ntmps109
 go_wp2_with (first | ((with_reducible refine gate_dst (N := 1) rfl ?_); (try (refine gate_guard (by rfl) ?_; dsimp only)); refine bx_ 1 #[.int .i64 a0_0, .int .i64 a0_1, .slice A0_2 l0_2.length c0_2] 43 ?_; intro gb409 hg w22 hbox hb; have BK409 := aM (hbox); have GW409 := aM (bz_ w hg qz1); have GE409 := GW409; replace HB := bS_ hb; clear hb hbox hg; obtain ⟨hcz23_0, hcz23_1, hcz23_2, hfz23_0, hfz23_1, hfz23_2⟩ := b6_ BK409.out) | ((with_reducible refine gate_callee (f := 128) rfl ?_); refine goesL_ (some 4) rfl rfl Try.func128 (by kernel_rfl) rfl #[.agg #[.int .i64 a0_0, .int .i64 a0_1, .slice A0_2 l0_2.length c0_2]] rfl qz2 ?_; (with_reducible refine (spec_Together.calls k a0_0 a0_1 _ _ l0_2 false _ ?_ ?_ A2.out).mono ?_); exact qz5; exact qz14; rintro e w24 ⟨rfl, hb⟩; refine ⟨_, rfl, ?_⟩; replace BK409 := bB_ BK409 hb; replace HB := bS_ hb; (try clear hb)))
 go_ret
 exact ⟨qzw, qz1⟩
 }
end Go.Proofs.Ytankmdbbgepmbaa.PFnLively
