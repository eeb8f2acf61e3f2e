-- Made by a program of this session out of the translation. Lean checks it.
import Derived.Test.YtankmdbbgepmbaaPFnClashesx2
namespace Go.Proofs.Ytankmdbbgepmbaa.PFnClashes
open Go.RowKit Go.Proofs.YtankmdbbgepmbaaW.PrintWords Go.Proofs.YtankmdbbgepmbaaW.PrintLast Go.Proofs.YtankmdbbgepmbaaW.PrintMore
set_option linter.unusedVariables false
set_option linter.unusedSimpArgs false
set_option maxHeartbeats 16000000
set_option maxRecDepth 100000

/-! ### spec_l7Choices: function 62 -/
mutual
def spec_l7Choices.l0 : Nat → List Int → List Int → List Int → Int → Int → Int → List Int → Int → Int → Int → Bool → Int → Option (List Int)
 | 0, _, _, _, _, _, _, _, _, _, _, _, _ => none
 | k + 1, x2, x7, x8, x9, x152000, x152001, x152002, x153000, x153001, x153002, x153003, x153004 => if x9 < (x8.length : Int) then (if x153003 = true then (if 0 ≤ x9 then (if 0 ≤ (rd x8 x9) then (if (rd x8 x9) < (x152002.length : Int) then (if (rd x152002 (rd x8 x9)) = 2 then (if (rd x8 x9) = x153002 then (if x7.length < 17592186044416 then (spec_l7Choices.l0 k x2 (x7 ++ [rd x8 x9]) x8 (wrap64 (x9 + 1)) x152000 x152001 x152002 x153000 x153001 x153002 x153003 x153004) else (none)) else (spec_l7Choices.l0 k x2 x7 x8 (wrap64 (x9 + 1)) x152000 x152001 x152002 x153000 x153001 x153002 x153003 x153004)) else (if x7.length < 17592186044416 then (spec_l7Choices.l0 k x2 (x7 ++ [rd x8 x9]) x8 (wrap64 (x9 + 1)) x152000 x152001 x152002 x153000 x153001 x153002 x153003 x153004) else (none))) else (none)) else (none)) else (none)) else (if 0 ≤ x9 then (if x7.length < 17592186044416 then (spec_l7Choices.l0 k x2 (x7 ++ [rd x8 x9]) x8 (wrap64 (x9 + 1)) x152000 x152001 x152002 x153000 x153001 x153002 x153003 x153004) else (none)) else (none))) else (if x7.length < 17592186044416 then (spec_l7Choices.l1 k x2 (x7 ++ [x153001]) (([] : List Int)) 0 x153000 x153001 x153002 x153003 x153004) else (none))
def spec_l7Choices.l1 : Nat → List Int → List Int → List Int → Int → Int → Int → Int → Bool → Int → Option (List Int)
 | 0, _, _, _, _, _, _, _, _, _ => none
 | k + 1, x2, x7, x10, x11, x153000, x153001, x153002, x153003, x153004 => if x11 < (x7.length : Int) then (if 0 ≤ x11 then (if x10.length < 17592186044416 then (spec_l7Choices.l2 k x2 x7 (x10 ++ [rd x7 x11]) x11 (x10.length : Int) x153000 x153001 x153002 x153003 x153004) else (none)) else (none)) else (some x10)
def spec_l7Choices.l2 : Nat → List Int → List Int → List Int → Int → Int → Int → Int → Int → Bool → Int → Option (List Int)
 | 0, _, _, _, _, _, _, _, _, _, _ => none
 | k + 1, x2, x7, x10, x11, x12, x153000, x153001, x153002, x153003, x153004 => if x12 > 0 then (if 0 ≤ x11 then (if x11 < (x7.length : Int) then (if 0 ≤ (wrap64 (x12 - 1)) then (if (wrap64 (x12 - 1)) < (x10.length : Int) then ((spec_l7Before.f x153000 x153001 x153002 x153003 x153004 x2 (rd x7 x11) (rd x10 (wrap64 (x12 - 1)))).bind fun t186 => (if t186 = true then (if 0 ≤ x12 then (if x12 < (x10.length : Int) then (spec_l7Choices.l2 k x2 x7 (x10.set (x12 : Int).toNat (rd x10 (wrap64 (x12 - 1)))) x11 (wrap64 (x12 - 1)) x153000 x153001 x153002 x153003 x153004) else (none)) else (none)) else (if 0 ≤ x12 then (if x12 < (x10.length : Int) then (spec_l7Choices.l1 k x2 x7 (x10.set (x12 : Int).toNat (rd x7 x11)) (wrap64 (x11 + 1)) x153000 x153001 x153002 x153003 x153004) else (none)) else (none)))) else (none)) else (none)) else (none)) else (none)) else (if 0 ≤ x11 then (if x11 < (x7.length : Int) then (if 0 ≤ x12 then (if x12 < (x10.length : Int) then (spec_l7Choices.l1 k x2 x7 (x10.set (x12 : Int).toNat (rd x7 x11)) (wrap64 (x11 + 1)) x153000 x153001 x153002 x153003 x153004) else (none)) else (none)) else (none)) else (none))
end
def spec_l7Choices.f (k : Nat) (a0_0 : Int) (a0_1 : Int) (l0_2 : List Int) (a1_0 : Int) (a1_1 : Int) (a1_2 : Int) (a1_3 : Bool) (a1_4 : Int) (l2 : List Int) : Option (List Int) := (spec_l1Near.f k a0_0 a0_1 l0_2 a1_1 false).bind fun t156 => (spec_l7Choices.l0 k l2 (([] : List Int)) t156 0 a0_0 a0_1 l0_2 a1_0 a1_1 a1_2 a1_3 a1_4)
theorem spec_l7Choices.mono_l : ∀ k, (∀ y0 y1 y2 y3 y4 y5 y6 y7 y8 y9 y10 y11, LeO (spec_l7Choices.l0 k y0 y1 y2 y3 y4 y5 y6 y7 y8 y9 y10 y11) (spec_l7Choices.l0 (k + 1) y0 y1 y2 y3 y4 y5 y6 y7 y8 y9 y10 y11)) ∧ (∀ y0 y1 y2 y3 y4 y5 y6 y7 y8, LeO (spec_l7Choices.l1 k y0 y1 y2 y3 y4 y5 y6 y7 y8) (spec_l7Choices.l1 (k + 1) y0 y1 y2 y3 y4 y5 y6 y7 y8)) ∧ (∀ y0 y1 y2 y3 y4 y5 y6 y7 y8 y9, LeO (spec_l7Choices.l2 k y0 y1 y2 y3 y4 y5 y6 y7 y8 y9) (spec_l7Choices.l2 (k + 1) y0 y1 y2 y3 y4 y5 y6 y7 y8 y9))
 | 0 => ⟨fun _ _ _ _ _ _ _ _ _ _ _ _ r h => by simp [spec_l7Choices.l0] at h, fun _ _ _ _ _ _ _ _ _ r h => by simp [spec_l7Choices.l1] at h, fun _ _ _ _ _ _ _ _ _ _ r h => by simp [spec_l7Choices.l2] at h⟩
 | k + 1 => by
  obtain ⟨ih0, ih1, ih2⟩ := spec_l7Choices.mono_l k
  refine ⟨?_, ?_, ?_⟩
  {
  intro y0 y1 y2 y3 y4 y5 y6 y7 y8 y9 y10 y11
  unfold spec_l7Choices.l0
  have j0 := @spec_l1Near.mono
  exact qL
  }
  {
  intro y0 y1 y2 y3 y4 y5 y6 y7 y8
  unfold spec_l7Choices.l1
  have j0 := @spec_l1Near.mono
  exact qL
  }
  {
  intro y0 y1 y2 y3 y4 y5 y6 y7 y8 y9
  unfold spec_l7Choices.l2
  have j0 := @spec_l1Near.mono
  exact qL
  }
theorem spec_l7Choices.mono : ∀ a0 a1 a2 a3 a4 a5 a6 a7 a8 k, LeO (spec_l7Choices.f k a0 a1 a2 a3 a4 a5 a6 a7 a8) (spec_l7Choices.f (k + 1) a0 a1 a2 a3 a4 a5 a6 a7 a8) := by
 intro a0 a1 a2 a3 a4 a5 a6 a7 a8 k
 obtain ⟨ih0, ih1, ih2⟩ := spec_l7Choices.mono_l k
 unfold spec_l7Choices.f
 have j0 := @spec_l1Near.mono
 exact qL
def spec_l7Choices.T6 : Bool × List (List Nat × List Nat) := (true, [([], []), ([0], [0]), ([1], [1]), ([2], [2]), ([3], [3]), ([4, 3], [3, 4]), ([3], [3]), ([3], [3]), ([6, 7, 3], [3, 6, 7]), ([8, 3], [3, 8]), ([5, 9, 3], [3, 5, 9]), ([10, 3], [3, 10]), ([11, 3], [3, 11]), ([3, 12], [3, 12]), ([13, 3], [13]), ([14], [14]), ([14], [14]), ([15, 16, 14], [14, 15, 16]), ([17, 14], [14, 17]), ([14], [14]), ([19, 14], [14, 19]), ([18, 20, 14], [14, 18, 20]), ([14, 21], [14, 21])])
def spec_l7Choices.B6 : List Nat := [0, 1, 3, 7, 15, 31, 15, 15, 207, 463, 1023, 2047, 4095, 8191, 16383, 32767, 32767, 131071, 262143, 32767, 557055, 2097151, 4194303]
theorem spec_l7Choices.tab6 : rtab .any (opsOf Try.f62 6) = spec_l7Choices.T6 := by kernel_rfl
theorem spec_l7Choices.bits6 : waitsOk spec_l7Choices.T6.2 spec_l7Choices.B6 = true := by kernel_rfl
def spec_l7Choices.T15 : Bool × List (List Nat × List Nat) := (true, [([], []), ([0], [0]), ([1], [1]), ([2], [2]), ([2], [2]), ([2], [2]), ([2], [2]), ([5, 6, 2], [2, 5, 6]), ([7, 2], [2, 7]), ([2], [2]), ([2], [2]), ([10, 2], [2, 10]), ([9, 11, 2], [2, 9, 11]), ([12, 2], [2, 12]), ([3, 4, 8, 13, 2, 2], [2, 3, 4, 8, 13]), ([2, 14], [2, 14])])
def spec_l7Choices.B15 : List Nat := [0, 1, 3, 7, 7, 7, 7, 103, 231, 7, 7, 1031, 3591, 7687, 16383, 32767]
theorem spec_l7Choices.tab15 : rtab .any (opsOf Try.f62 15) = spec_l7Choices.T15 := by kernel_rfl
theorem spec_l7Choices.bits15 : waitsOk spec_l7Choices.T15.2 spec_l7Choices.B15 = true := by kernel_rfl
theorem spec_l7Choices.calls (k : Nat) (a0_0 : Int) (a0_1 : Int) (A0_2 : Option Addr) (c0_2 : Nat) (l0_2 : List Int) (a1_0 : Int) (a1_1 : Int) (a1_2 : Int) (a1_3 : Bool) (a1_4 : Int) (A2 : Option Addr) (c2 : Nat) (l2 : List Int) (r : List Int) (w : World) (hr0_2 : Kd.C (Kd.int .i64) w A0_2 l0_2.length l0_2) (hc0_2 : l0_2.length ≤ c0_2) (hr2 : Kd.C (Kd.int .i64) w A2 l2.length l2) (hc2 : l2.length ≤ c2) (h : spec_l7Choices.f k a0_0 a0_1 l0_2 a1_0 a1_1 a1_2 a1_3 a1_4 l2 = some r) :
  Calls Try.prog 62 #[.agg #[.int .i64 a0_0, .int .i64 a0_1, .slice A0_2 l0_2.length c0_2], .agg #[.int .i64 a1_0, .int .i64 a1_1, .int .i64 a1_2, .bool a1_3, .int .i64 a1_4], .slice A2 l2.length c2] w fun e w' => ∃ v0_ : Value, e = .returned (v0_) ∧ Kd.R (Kd.int .i64) 3 w' w.heap.size (fun _ => True) v0_ r ∧ Below w.heap.size w w' := by
 have hu43 := Try.underlying43
 have hu37 := Try.underlying37
 have HR0_2 := aM hr0_2
 have HC0_2 := aM hc0_2
 clear hr0_2 hc0_2
 have HR2 := aM hr2
 have HC2 := aM hc2
 clear hr2 hc2
 have HB := aM (Below.refl w.heap.size w)
 unfold spec_l7Choices.f at h
 have H := h
 clear h
 obtain ⟨y153, hy153⟩ : ∃ y_ : List Int, y_ = (([] : List Int)) := ⟨_, rfl⟩
 replace H : ((spec_l1Near.f k a0_0 a0_1 l0_2 a1_1 false).bind fun t156 => (spec_l7Choices.l0 k l2 y153 t156 0 a0_0 a0_1 l0_2 a1_0 a1_1 a1_2 a1_3 a1_4)) = some r := by first | (rw [hy153]; exact H) | exact H
 have Ny153 := aM hy153
 clear hy153
 replace H := Option.bind_eq_some_iff.mp H
 obtain ⟨t156, A40, H⟩ := H
 have A4 := aM A40
 clear A40
 have H' := aM H
 clear H
 go_enter Try.func62, Try.ntmps62
 go_wp2_with (first | ((with_reducible refine gate_dst (N := 3) rfl ?_); refine bx_ 3 #[.int .i64 a0_0, .int .i64 a0_1, .slice A0_2 l0_2.length c0_2] 43 ?_; intro gb151 hg w5 hbox hb; have BK151 := aM (hbox); have GW151 := aM (bz_ w hg qz1); have GE151 := GW151; replace HB := bS_ hb; clear hb hbox hg) | ((with_reducible refine gate_dst (N := 4) rfl ?_); refine bx_ 4 #[.int .i64 a1_0, .int .i64 a1_1, .int .i64 a1_2, .bool a1_3, .int .i64 a1_4] 37 ?_; intro gb152 hg w6 hbox hb; have BK152 := aM (hbox); have GW152 := aM (bz_ w hg qz1); have GE152 := GW152; replace HB := bS_ hb; obtain ⟨NB151_152, NB152_151⟩ := nb_ hg (bk_ BK151.out); replace BK151 := bB_ BK151 hb; clear hb hbox hg) | ((with_reducible refine gate_dst (N := 13) rfl ?_); refine Kd.R_lit (Kd.int .i64) _ 3 ?hg (N := 13) ?hd (xs := ([] : List Int)) (inner := []) (ok := fun _ => True) (okp := fun _ => True) ?hr ?hp (fun _ hk => hk) trivial (Below.refl _ _) (Nat.le_refl _) (by simp) ?_; (case hd => rfl); (case hg => rfl); (case hr => exact qz9); (case hp => exact (Reps.none _ _)); intro v154 w7 ho8 hb hg_ hnew_; clear hg_ hnew_; (first | rw [← Ny153.out] at ho8 | (simp only [Int.reduceToNat] at ho8; rw [← Ny153.out] at ho8)); have HO155 := aM (Kd.R_lower ho8 (below_size qz1)); replace BK151 := bB_ BK151 hb; replace BK152 := bB_ BK152 hb; replace HB := bS_ hb; clear hb ho8; have hnb9 := NB151_152.out; have hnc9 := NB152_151.out; obtain ⟨hcz10_0, hcz10_1, hcz10_2, hfz10_0, hfz10_1, hfz10_2⟩ := b6_ BK151.out; obtain ⟨hcz11_0, hcz11_1, hcz11_2, hcz11_3, hcz11_4, hfz11_0, hfz11_1, hfz11_2, hfz11_3, hfz11_4⟩ := b10_ BK152.out) | ((with_reducible refine gate_callee (f := 99) rfl ?_); refine goesL_ (some 17) rfl rfl Try.func99 (by kernel_rfl) rfl #[.agg #[.int .i64 a0_0, .int .i64 a0_1, .slice A0_2 l0_2.length c0_2], .int .i64 a1_1, .bool false] rfl qz2 ?_; (with_reducible refine (spec_l1Near.calls k a0_0 a0_1 _ _ l0_2 a1_1 false t156 _ ?_ ?_ A4.out).mono ?_); exact qz6; exact qz28; rintro e w12 ⟨v157, rfl, ho0, hb⟩; refine ⟨_, rfl, ?_⟩; have HO158 := aM (Kd.R_lower (Kd.R_new' ho0 (Kd.R_lt (rr_ HO155.out))) (below_size qz1)); replace HO155 := aM (Kd.R_elder' (rr_ HO155.out) (Kd.R_base ho0) hb); replace BK151 := bB_ BK151 hb; replace BK152 := bB_ BK152 hb; replace HB := bS_ hb; (try clear hb ho0)))
 go_loopg [7, 9] k (fun kq v7 v9 w' => ∃ (x7_1 : List Int) (x9_1 : Int), v9 = .int .i64 x9_1 ∧ Aside0 (spec_l7Choices.l0 kq l2 x7_1 t156 x9_1 a0_0 a0_1 l0_2 a1_0 a1_1 a1_2 a1_3 a1_4 = some r) ∧ Aside0 (kq ≤ k) ∧ Aside0 (Kd.R (Kd.int .i64) 3 w' w.heap.size (fun k_ => some k_ ≠ (v157 : Value).ownBlock) v7 x7_1) ∧ Aside0 (Kd.R (Kd.int .i64) 3 w' w.heap.size (fun k_ => some k_ ≠ (v7 : Value).ownBlock) v157 t156) ∧ Aside0 (w'.heap[gb151]? = some (.cells #[.int .i64 a0_0, .int .i64 a0_1, (.slice A0_2 l0_2.length c0_2)] 43 (0, 0))) ∧ Aside0 (w'.heap[gb152]? = some (.cells #[.int .i64 a1_0, .int .i64 a1_1, .int .i64 a1_2, .bool a1_3, .int .i64 a1_4] 37 (0, 0))) ∧ Aside0 (Below w.heap.size w w'))
 case atStart => exact ⟨(y153), (0), qz7, H', ⟨Nat.le_refl _⟩, ⟨by (with_reducible repeat (first | apply Kd.R_alloc | apply Kd.R_drewN | apply Kd.R_drew)); exact Kd.R_mono HO155.out (fun _ hk => hk.2)⟩, ⟨by (with_reducible repeat (first | apply Kd.R_alloc | apply Kd.R_drewN | apply Kd.R_drew)); exact Kd.R_mono HO158.out (fun _ hk => hk.2)⟩, ⟨bk_ BK151.out⟩, ⟨bk_ BK152.out⟩, ⟨qz1⟩⟩
 case round =>
 clear H'
 try clear c2
 try clear hcz10_0 hcz10_1 hcz10_2 hfz10_0 hfz10_1 hfz10_2
 try clear hcz11_0 hcz11_1 hcz11_2 hcz11_3 hcz11_4 hfz11_0 hfz11_1 hfz11_2 hfz11_3 hfz11_4
 obtain ⟨x7_1, x9_1, rfl, HA, HK1, HO_7, HO_8, BK151, BK152, HB⟩ := hrel
 cases gk with
 | zero => exact absurd HA.out (by simp [spec_l7Choices.l0])
 | succ k1 =>
 have H := HA.out
 clear HA
 simp only [spec_l7Choices.l0] at H
 replace H := iE_ H
 rcases H with ⟨c13b0, H⟩ | ⟨c13b0, H⟩
 {
 replace H := iB_ H
 rcases H with ⟨rfl, H⟩ | ⟨rfl, H⟩
 {
 replace H := iD_ H
 obtain ⟨c15b0, H⟩ := H
 replace H := iD_ H
 obtain ⟨c16b0, H⟩ := H
 replace H := iD_ H
 obtain ⟨c17b0, H⟩ := H
 replace H := iQ_ H
 rcases H with ⟨c18b0, c18b1, H⟩ | ⟨c18, c18b0, c18b1, H⟩
 {
 replace H := iQ_ H
 rcases H with ⟨c19b0, c19b1, H⟩ | ⟨c19, c19b0, c19b1, H⟩
 {
 replace H := iN_ H
 obtain ⟨c20, H⟩ := H
 have LMc20 := aM c20
 clear c20
 obtain ⟨y163, hy163⟩ : ∃ y_ : List Int, y_ = (x7_1 ++ [rd t156 x9_1]) := ⟨_, rfl⟩
 replace H : (spec_l7Choices.l0 k1 l2 y163 t156 (wrap64 (x9_1 + 1)) a0_0 a0_1 l0_2 a1_0 a1_1 a1_2 true a1_4) = some r := by first | (rw [hy163]; exact H) | exact H
 have Ny163 := aM hy163
 clear hy163
 have H' := aM H
 clear H
 obtain ⟨Ao21, co21, eo21⟩ := Kd.R_slice HO_8.out
 subst eo21
 try go_wp2
 replace HO_7 := aM (Kd.R_drew HO_7.out)
 replace HO_8 := aM (Kd.R_drew HO_8.out)
 replace BK151 := aM (blk_drew BK151.out)
 replace BK152 := aM (blk_drew BK152.out)
 replace HB := aM (below_drew1 HB.out)
 have p159 : (0 ≤ (x9_1 : Int)) = True := et_
 have q159 : (x9_1 < (t156.length : Int)) = True := et_
 obtain ⟨ad159, e159, hx159_0⟩ := Kd.at_int (Kd.R_reads' HO_8.out).2.2 x9_1 dt_ dt_
 cases e159
 have p160 : (0 ≤ ((rd t156 x9_1) : Int)) = True := et_
 have q160 : ((rd t156 x9_1) < (l0_2.length : Int)) = True := et_
 obtain ⟨ad160, e160, hx160_0⟩ := Kd.at_int HR0_2.out (rd t156 x9_1) dt_ dt_
 have hw160_0 := hx160_0
 cases e160
 replace hx160_0 := cB_ hx160_0
 have p161 : (0 ≤ (x9_1 : Int)) = True := et_
 have q161 : (x9_1 < (t156.length : Int)) = True := et_
 obtain ⟨ad161, e161, hx161_0⟩ := Kd.at_int (Kd.R_reads' HO_8.out).2.2 x9_1 dt_ dt_
 obtain rfl := iJ_ e161
 refine start_ (n := 23) (S := fun w' => w'.cell? ⟨gb152, 0, none⟩ = some (.int .i64 a1_0) ∧ w'.cell? ⟨gb152, 1, none⟩ = some (.int .i64 a1_1) ∧ w'.cell? ⟨gb152, 2, none⟩ = some (.int .i64 a1_2) ∧ w'.cell? ⟨gb152, 3, none⟩ = some (.bool true) ∧ w'.cell? ⟨gb152, 4, none⟩ = some (.int .i64 a1_4) ∧ w'.cell? ⟨gb151, 0, none⟩ = some (.int .i64 a0_0) ∧ w'.cell? ⟨gb151, 1, none⟩ = some (.int .i64 a0_1) ∧ w'.cell? ⟨gb151, 2, none⟩ = some (.slice (some ad160) l0_2.length c0_2) ∧ w'.cell? (ad159.add (x9_1).toNat) = some (.int .i64 (rd t156 x9_1)) ∧ w'.cell? (ad160.add ((rd t156 x9_1)).toNat) = some (.int .i64 (rd l0_2 (rd t156 x9_1))) ∧ w'.cell? (ad159.add (x9_1).toNat) = some (.int .i64 (rd t156 x9_1))) (ds := []) #[false, false, false, false, false, false, false, false, false, false, false, false, false, false, false, false, false, false, false, false, false, false, false] (by kernel_rfl) rfl rfl ⟨(blk_cell BK152.out 0).trans rfl, (blk_cell BK152.out 1).trans rfl, (blk_cell BK152.out 2).trans rfl, (blk_cell BK152.out 3).trans rfl, (blk_cell BK152.out 4).trans rfl, (blk_cell BK151.out 0).trans rfl, (blk_cell BK151.out 1).trans rfl, (blk_cell BK151.out 2).trans rfl, hx159_0, (cB_ hw160_0), hx161_0⟩ (fun hHeld => ?_); refine with_tabW spec_l7Choices.tab6 spec_l7Choices.bits6 (fun HT_ HW_ => ?_)
 generalize wr.drew = w22 at HO_7 HO_8 BK151 BK152 HB hx159_0 hx160_0 hx161_0 hHeld ⊢
 refine pI_ 0 (bqz 23 1) ?_
 refine sI11_ 1 ?_
 refine jI_ 2 ?_
 refine jI_ 3 ?_
 refine jI_ 4 ?_
 refine jI_ 6 ?_
 refine jI_ 7 ?_
 refine jI_ 8 ?_
 refine sI11_ 5 ?_
 refine sI11_ 9 ?_
 refine jI_ 10 ?_
 refine sI11_ 11 ?_
 refine jI_ 12 ?_
 refine jI_ 13 ?_
 refine jI_ 14 ?_
 refine jI_ 15 ?_
 refine jI_ 16 ?_
 refine jI_ 17 ?_
 refine jI_ 19 ?_
 refine sI11_ 18 ?_
 refine sI11_ 20 ?_
 refine jI_ 21 ?_
 refine jI_ 22 ?_
 refine dN_ ?_
 have p162 : (0 ≤ (x9_1 : Int)) = True := et_
 have q162 : (x9_1 < (t156.length : Int)) = True := et_
 obtain ⟨ad162, e162, hx162_0⟩ := Kd.at_int (Kd.R_reads' HO_8.out).2.2 x9_1 dt_ dt_
 obtain rfl := iJ_ e162
 try go_wp2_with (first | ((with_reducible refine gate_builtin (b := .append) (xs := #[.tmp 47, .tmp 52]) rfl ?_); at_builtin; refine Kd.R_append (Kd.int .i64) (w0 := w) w.heap.size rfl (.tmp 47) (.tmp 52) 24 3 (.int .i64 0) 8 rfl Try.underlying24 info3 rfl (by decide) (by omega) u7 x7_1 (rd t156 x9_1) [.int .i64 (rd t156 x9_1)] (fun k_ => some k_ ≠ (.slice (some ad159) t156.length co21 : Value).ownBlock) (fun _ => False) rfl rfl ?aP (fun _ hk => hk.elim) ?aF ?aO ?aB ?aS ?aL ?_; (case aP => exact rfl); (case aB => exact qz1); (case aF => exact qz22); (case aO => exact (rr_ HO_7.out)); (case aS => exact qz32); (case aL => have := LMc20.out; omega); intro v164 w23 ho hb hg hat; rw [← Ny163.out] at ho; replace HO_8 := aM (Kd.R_after (ok := (fun _ => True)) qz14 hg hat); replace BK151 := aM (blk_grown (bk_ BK151.out) hg (Kd.R_ne HO_7.out BK151.out (by decide))); replace BK152 := aM (blk_grown (bk_ BK152.out) hg (Kd.R_ne HO_7.out BK152.out (by decide))); replace HB := aM (hb); have HO165 := aM (ho); clear HO_7; clear ho hb hg hat))
 go_roundg k1
 case measure => have := HK1.out; omega
 case rel => exact ⟨(y163), (wrap64 (x9_1 + 1)), qz7, H', ⟨by have := HK1.out; omega⟩, ⟨rm_ HO165.out⟩, ⟨by (with_reducible repeat (first | apply Kd.R_alloc | apply Kd.R_drewN | apply Kd.R_drew)); exact Kd.R_mono HO_8.out (fun _ hk => hk.2)⟩, ⟨bk_ BK151.out⟩, ⟨bk_ BK152.out⟩, ⟨qz1⟩⟩
 }
 {
 have H' := aM H
 clear H
 obtain ⟨Ao24, co24, eo24⟩ := Kd.R_slice HO_8.out
 subst eo24
 try go_wp2
 replace HO_7 := aM (Kd.R_drew HO_7.out)
 replace HO_8 := aM (Kd.R_drew HO_8.out)
 replace BK151 := aM (blk_drew BK151.out)
 replace BK152 := aM (blk_drew BK152.out)
 replace HB := aM (below_drew1 HB.out)
 have p159 : (0 ≤ (x9_1 : Int)) = True := et_
 have q159 : (x9_1 < (t156.length : Int)) = True := et_
 obtain ⟨ad159, e159, hx159_0⟩ := Kd.at_int (Kd.R_reads' HO_8.out).2.2 x9_1 dt_ dt_
 cases e159
 have p160 : (0 ≤ ((rd t156 x9_1) : Int)) = True := et_
 have q160 : ((rd t156 x9_1) < (l0_2.length : Int)) = True := et_
 obtain ⟨ad160, e160, hx160_0⟩ := Kd.at_int HR0_2.out (rd t156 x9_1) dt_ dt_
 have hw160_0 := hx160_0
 cases e160
 replace hx160_0 := cB_ hx160_0
 have p161 : (0 ≤ (x9_1 : Int)) = True := et_
 have q161 : (x9_1 < (t156.length : Int)) = True := et_
 obtain ⟨ad161, e161, hx161_0⟩ := Kd.at_int (Kd.R_reads' HO_8.out).2.2 x9_1 dt_ dt_
 obtain rfl := iJ_ e161
 refine start_ (n := 23) (S := fun w' => w'.cell? ⟨gb152, 0, none⟩ = some (.int .i64 a1_0) ∧ w'.cell? ⟨gb152, 1, none⟩ = some (.int .i64 a1_1) ∧ w'.cell? ⟨gb152, 2, none⟩ = some (.int .i64 a1_2) ∧ w'.cell? ⟨gb152, 3, none⟩ = some (.bool true) ∧ w'.cell? ⟨gb152, 4, none⟩ = some (.int .i64 a1_4) ∧ w'.cell? ⟨gb151, 0, none⟩ = some (.int .i64 a0_0) ∧ w'.cell? ⟨gb151, 1, none⟩ = some (.int .i64 a0_1) ∧ w'.cell? ⟨gb151, 2, none⟩ = some (.slice (some ad160) l0_2.length c0_2) ∧ w'.cell? (ad159.add (x9_1).toNat) = some (.int .i64 (rd t156 x9_1)) ∧ w'.cell? (ad160.add ((rd t156 x9_1)).toNat) = some (.int .i64 (rd l0_2 (rd t156 x9_1))) ∧ w'.cell? (ad159.add (x9_1).toNat) = some (.int .i64 (rd t156 x9_1))) (ds := []) #[false, false, false, false, false, false, false, false, false, false, false, false, false, false, false, false, false, false, false, false, false, false, false] (by kernel_rfl) rfl rfl ⟨(blk_cell BK152.out 0).trans rfl, (blk_cell BK152.out 1).trans rfl, (blk_cell BK152.out 2).trans rfl, (blk_cell BK152.out 3).trans rfl, (blk_cell BK152.out 4).trans rfl, (blk_cell BK151.out 0).trans rfl, (blk_cell BK151.out 1).trans rfl, (blk_cell BK151.out 2).trans rfl, hx159_0, (cB_ hw160_0), hx161_0⟩ (fun hHeld => ?_); refine with_tabW spec_l7Choices.tab6 spec_l7Choices.bits6 (fun HT_ HW_ => ?_)
 generalize wr.drew = w25 at HO_7 HO_8 BK151 BK152 HB hx159_0 hx160_0 hx161_0 hHeld ⊢
 refine pI_ 0 (bqz 23 1) ?_
 refine sI11_ 1 ?_
 refine jI_ 2 ?_
 refine jI_ 3 ?_
 refine jI_ 4 ?_
 refine jI_ 6 ?_
 refine jI_ 7 ?_
 refine jI_ 8 ?_
 refine sI11_ 5 ?_
 refine sI11_ 9 ?_
 refine jI_ 10 ?_
 refine sI11_ 11 ?_
 refine jI_ 12 ?_
 refine jI_ 13 ?_
 refine jI_ 14 ?_
 refine jI_ 15 ?_
 refine jI_ 16 ?_
 refine jI_ 17 ?_
 refine jI_ 19 ?_
 refine sI11_ 18 ?_
 refine sI11_ 20 ?_
 refine jI_ 21 ?_
 refine jI_ 22 ?_
 refine dN_ ?_
 try go_wp2
 go_roundg k1
 case measure => have := HK1.out; omega
 case rel => exact ⟨(x7_1), (wrap64 (x9_1 + 1)), qz7, H', ⟨by have := HK1.out; omega⟩, ⟨rm_ HO_7.out⟩, ⟨rm_ HO_8.out⟩, ⟨bk_ BK151.out⟩, ⟨bk_ BK152.out⟩, ⟨qz1⟩⟩
 }
 }
 {
 replace H := iN_ H
 obtain ⟨c26, H⟩ := H
 have LMc26 := aM c26
 clear c26
 obtain ⟨y167, hy167⟩ : ∃ y_ : List Int, y_ = (x7_1 ++ [rd t156 x9_1]) := ⟨_, rfl⟩
 replace H : (spec_l7Choices.l0 k1 l2 y167 t156 (wrap64 (x9_1 + 1)) a0_0 a0_1 l0_2 a1_0 a1_1 a1_2 true a1_4) = some r := by first | (rw [hy167]; exact H) | exact H
 have Ny167 := aM hy167
 clear hy167
 have H' := aM H
 clear H
 obtain ⟨Ao27, co27, eo27⟩ := Kd.R_slice HO_8.out
 subst eo27
 try go_wp2
 replace HO_7 := aM (Kd.R_drew HO_7.out)
 replace HO_8 := aM (Kd.R_drew HO_8.out)
 replace BK151 := aM (blk_drew BK151.out)
 replace BK152 := aM (blk_drew BK152.out)
 replace HB := aM (below_drew1 HB.out)
 have p159 : (0 ≤ (x9_1 : Int)) = True := et_
 have q159 : (x9_1 < (t156.length : Int)) = True := et_
 obtain ⟨ad159, e159, hx159_0⟩ := Kd.at_int (Kd.R_reads' HO_8.out).2.2 x9_1 dt_ dt_
 cases e159
 have p160 : (0 ≤ ((rd t156 x9_1) : Int)) = True := et_
 have q160 : ((rd t156 x9_1) < (l0_2.length : Int)) = True := et_
 obtain ⟨ad160, e160, hx160_0⟩ := Kd.at_int HR0_2.out (rd t156 x9_1) dt_ dt_
 have hw160_0 := hx160_0
 cases e160
 replace hx160_0 := cB_ hx160_0
 refine start_ (n := 23) (S := fun w' => w'.cell? ⟨gb152, 0, none⟩ = some (.int .i64 a1_0) ∧ w'.cell? ⟨gb152, 1, none⟩ = some (.int .i64 a1_1) ∧ w'.cell? ⟨gb152, 2, none⟩ = some (.int .i64 a1_2) ∧ w'.cell? ⟨gb152, 3, none⟩ = some (.bool true) ∧ w'.cell? ⟨gb152, 4, none⟩ = some (.int .i64 a1_4) ∧ w'.cell? ⟨gb151, 0, none⟩ = some (.int .i64 a0_0) ∧ w'.cell? ⟨gb151, 1, none⟩ = some (.int .i64 a0_1) ∧ w'.cell? ⟨gb151, 2, none⟩ = some (.slice (some ad160) l0_2.length c0_2) ∧ w'.cell? (ad159.add (x9_1).toNat) = some (.int .i64 (rd t156 x9_1)) ∧ w'.cell? (ad160.add ((rd t156 x9_1)).toNat) = some (.int .i64 (rd l0_2 (rd t156 x9_1)))) (ds := []) #[false, false, false, false, false, false, false, false, false, false, false, false, false, false, false, false, false, false, false, false, false, false, false] (by kernel_rfl) rfl rfl ⟨(blk_cell BK152.out 0).trans rfl, (blk_cell BK152.out 1).trans rfl, (blk_cell BK152.out 2).trans rfl, (blk_cell BK152.out 3).trans rfl, (blk_cell BK152.out 4).trans rfl, (blk_cell BK151.out 0).trans rfl, (blk_cell BK151.out 1).trans rfl, (blk_cell BK151.out 2).trans rfl, hx159_0, (cB_ hw160_0)⟩ (fun hHeld => ?_); refine with_tabW spec_l7Choices.tab6 spec_l7Choices.bits6 (fun HT_ HW_ => ?_)
 generalize wr.drew = w28 at HO_7 HO_8 BK151 BK152 HB hx159_0 hx160_0 hHeld ⊢
 refine pI_ 0 (bqz 23 1) ?_
 refine sI10_ 1 ?_
 refine jI_ 2 ?_
 refine jI_ 3 ?_
 refine jI_ 4 ?_
 refine jI_ 6 ?_
 refine jI_ 7 ?_
 refine jI_ 8 ?_
 refine sI10_ 5 ?_
 refine sI10_ 9 ?_
 refine jI_ 10 ?_
 refine sI10_ 11 ?_
 refine jI_ 12 ?_
 refine jI_ 13 ?_
 refine jI_ 14 ?_
 refine jU_ 15 ?_
 refine jU_ 16 ?_
 refine jU_ 17 ?_
 refine jU_ 18 ?_
 refine jU_ 19 ?_
 refine jU_ 20 ?_
 refine jU_ 21 ?_
 refine jI_ 22 ?_
 refine dN_ ?_
 have p166 : (0 ≤ (x9_1 : Int)) = True := et_
 have q166 : (x9_1 < (t156.length : Int)) = True := et_
 obtain ⟨ad166, e166, hx166_0⟩ := Kd.at_int (Kd.R_reads' HO_8.out).2.2 x9_1 dt_ dt_
 obtain rfl := iJ_ e166
 try go_wp2_with (first | ((with_reducible refine gate_builtin (b := .append) (xs := #[.tmp 47, .tmp 52]) rfl ?_); at_builtin; refine Kd.R_append (Kd.int .i64) (w0 := w) w.heap.size rfl (.tmp 47) (.tmp 52) 24 3 (.int .i64 0) 8 rfl Try.underlying24 info3 rfl (by decide) (by omega) u7 x7_1 (rd t156 x9_1) [.int .i64 (rd t156 x9_1)] (fun k_ => some k_ ≠ (.slice (some ad159) t156.length co27 : Value).ownBlock) (fun _ => False) rfl rfl ?aP (fun _ hk => hk.elim) ?aF ?aO ?aB ?aS ?aL ?_; (case aP => exact rfl); (case aB => exact qz1); (case aF => exact qz22); (case aO => exact (rr_ HO_7.out)); (case aS => exact qz32); (case aL => have := LMc26.out; omega); intro v168 w29 ho hb hg hat; rw [← Ny167.out] at ho; replace HO_8 := aM (Kd.R_after (ok := (fun _ => True)) qz14 hg hat); replace BK151 := aM (blk_grown (bk_ BK151.out) hg (Kd.R_ne HO_7.out BK151.out (by decide))); replace BK152 := aM (blk_grown (bk_ BK152.out) hg (Kd.R_ne HO_7.out BK152.out (by decide))); replace HB := aM (hb); have HO169 := aM (ho); clear HO_7; clear ho hb hg hat))
 go_roundg k1
 case measure => have := HK1.out; omega
 case rel => exact ⟨(y167), (wrap64 (x9_1 + 1)), qz7, H', ⟨by have := HK1.out; omega⟩, ⟨rm_ HO169.out⟩, ⟨by (with_reducible repeat (first | apply Kd.R_alloc | apply Kd.R_drewN | apply Kd.R_drew)); exact Kd.R_mono HO_8.out (fun _ hk => hk.2)⟩, ⟨bk_ BK151.out⟩, ⟨bk_ BK152.out⟩, ⟨qz1⟩⟩
 }
 }
 {
 replace H := iD_ H
 obtain ⟨c30b0, H⟩ := H
 replace H := iN_ H
 obtain ⟨c31, H⟩ := H
 have LMc31 := aM c31
 clear c31
 obtain ⟨y171, hy171⟩ : ∃ y_ : List Int, y_ = (x7_1 ++ [rd t156 x9_1]) := ⟨_, rfl⟩
 replace H : (spec_l7Choices.l0 k1 l2 y171 t156 (wrap64 (x9_1 + 1)) a0_0 a0_1 l0_2 a1_0 a1_1 a1_2 false a1_4) = some r := by first | (rw [hy171]; exact H) | exact H
 have Ny171 := aM hy171
 clear hy171
 have H' := aM H
 clear H
 obtain ⟨Ao32, co32, eo32⟩ := Kd.R_slice HO_8.out
 subst eo32
 try go_wp2
 replace HO_7 := aM (Kd.R_drew HO_7.out)
 replace HO_8 := aM (Kd.R_drew HO_8.out)
 replace BK151 := aM (blk_drew BK151.out)
 replace BK152 := aM (blk_drew BK152.out)
 replace HB := aM (below_drew1 HB.out)
 refine start_ (n := 23) (S := fun w' => w'.cell? ⟨gb152, 0, none⟩ = some (.int .i64 a1_0) ∧ w'.cell? ⟨gb152, 1, none⟩ = some (.int .i64 a1_1) ∧ w'.cell? ⟨gb152, 2, none⟩ = some (.int .i64 a1_2) ∧ w'.cell? ⟨gb152, 3, none⟩ = some (.bool false) ∧ w'.cell? ⟨gb152, 4, none⟩ = some (.int .i64 a1_4)) (ds := []) #[false, false, false, false, false, false, false, false, false, false, false, false, false, false, false, false, false, false, false, false, false, false, false] (by kernel_rfl) rfl rfl ⟨(blk_cell BK152.out 0).trans rfl, (blk_cell BK152.out 1).trans rfl, (blk_cell BK152.out 2).trans rfl, (blk_cell BK152.out 3).trans rfl, (blk_cell BK152.out 4).trans rfl⟩ (fun hHeld => ?_); refine with_tabW spec_l7Choices.tab6 spec_l7Choices.bits6 (fun HT_ HW_ => ?_)
 generalize wr.drew = w33 at HO_7 HO_8 BK151 BK152 HB hHeld ⊢
 refine pI_ 0 (bqz 23 1) ?_
 refine sI5_ 1 ?_
 refine jI_ 2 ?_
 refine jI_ 3 ?_
 refine jU_ 4 ?_
 refine jU_ 5 ?_
 refine jU_ 6 ?_
 refine jU_ 7 ?_
 refine jU_ 8 ?_
 refine jU_ 9 ?_
 refine jU_ 10 ?_
 refine jU_ 11 ?_
 refine jU_ 12 ?_
 refine jI_ 13 ?_
 refine jI_ 14 ?_
 refine jU_ 15 ?_
 refine jU_ 16 ?_
 refine jU_ 17 ?_
 refine jU_ 18 ?_
 refine jU_ 19 ?_
 refine jU_ 20 ?_
 refine jU_ 21 ?_
 refine jI_ 22 ?_
 refine dN_ ?_
 have p170 : (0 ≤ (x9_1 : Int)) = True := et_
 have q170 : (x9_1 < (t156.length : Int)) = True := et_
 obtain ⟨ad170, e170, hx170_0⟩ := Kd.at_int (Kd.R_reads' HO_8.out).2.2 x9_1 dt_ dt_
 cases e170
 try go_wp2_with (first | ((with_reducible refine gate_builtin (b := .append) (xs := #[.tmp 47, .tmp 52]) rfl ?_); at_builtin; refine Kd.R_append (Kd.int .i64) (w0 := w) w.heap.size rfl (.tmp 47) (.tmp 52) 24 3 (.int .i64 0) 8 rfl Try.underlying24 info3 rfl (by decide) (by omega) u7 x7_1 (rd t156 x9_1) [.int .i64 (rd t156 x9_1)] (fun k_ => some k_ ≠ (.slice (some ad170) t156.length co32 : Value).ownBlock) (fun _ => False) rfl rfl ?aP (fun _ hk => hk.elim) ?aF ?aO ?aB ?aS ?aL ?_; (case aP => exact rfl); (case aB => exact qz1); (case aF => exact qz22); (case aO => exact (rr_ HO_7.out)); (case aS => exact qz32); (case aL => have := LMc31.out; omega); intro v172 w34 ho hb hg hat; rw [← Ny171.out] at ho; replace HO_8 := aM (Kd.R_after (ok := (fun _ => True)) qz14 hg hat); replace BK151 := aM (blk_grown (bk_ BK151.out) hg (Kd.R_ne HO_7.out BK151.out (by decide))); replace BK152 := aM (blk_grown (bk_ BK152.out) hg (Kd.R_ne HO_7.out BK152.out (by decide))); replace HB := aM (hb); have HO173 := aM (ho); clear HO_7; clear ho hb hg hat))
 go_roundg k1
 case measure => have := HK1.out; omega
 case rel => exact ⟨(y171), (wrap64 (x9_1 + 1)), qz7, H', ⟨by have := HK1.out; omega⟩, ⟨rm_ HO173.out⟩, ⟨by (with_reducible repeat (first | apply Kd.R_alloc | apply Kd.R_drewN | apply Kd.R_drew)); exact Kd.R_mono HO_8.out (fun _ hk => hk.2)⟩, ⟨bk_ BK151.out⟩, ⟨bk_ BK152.out⟩, ⟨qz1⟩⟩
 }
 }
 {
 replace H := iN_ H
 obtain ⟨c35, H⟩ := H
 have LMc35 := aM c35
 clear c35
 obtain ⟨y174, hy174⟩ : ∃ y_ : List Int, y_ = (x7_1 ++ [a1_1]) := ⟨_, rfl⟩
 replace H : (spec_l7Choices.l1 k1 l2 y174 (([] : List Int)) 0 a1_0 a1_1 a1_2 a1_3 a1_4) = some r := by first | (rw [hy174]; exact H) | exact H
 have Ny174 := aM hy174
 clear hy174
 obtain ⟨y177, hy177⟩ : ∃ y_ : List Int, y_ = (([] : List Int)) := ⟨_, rfl⟩
 replace H : (spec_l7Choices.l1 k1 l2 y174 y177 0 a1_0 a1_1 a1_2 a1_3 a1_4) = some r := by first | (rw [hy177]; exact H) | exact H
 have Ny177 := aM hy177
 clear hy177
 have H' := aM H
 clear H
 obtain ⟨Ao36, co36, eo36⟩ := Kd.R_slice HO_8.out
 subst eo36
 have hnb37 := NB152_151.out
 have hnc37 := NB151_152.out
 have hcz38_0 := bc0_ BK152.out
 have hcz38_1 := bc1_ BK152.out
 have hcz38_2 := bc2_ BK152.out
 have hcz38_3 := bc3_ BK152.out
 have hcz38_4 := bc4_ BK152.out
 have hfz38_0 := blk_frozen BK152.out 0
 have hfz38_1 := blk_frozen BK152.out 1
 have hfz38_2 := blk_frozen BK152.out 2
 have hfz38_3 := blk_frozen BK152.out 3
 have hfz38_4 := blk_frozen BK152.out 4
 go_wp2_with (first | ((with_reducible refine gate_builtin (b := .append) (xs := #[.tmp 54, .tmp 57]) rfl ?_); at_builtin; refine Kd.R_append (Kd.int .i64) (w0 := w) w.heap.size rfl (.tmp 54) (.tmp 57) 24 3 (.int .i64 0) 8 rfl Try.underlying24 info3 rfl (by decide) (by omega) u7 x7_1 a1_1 [.int .i64 a1_1] (fun k_ => some k_ ≠ (.slice Ao36 t156.length co36 : Value).ownBlock) (fun _ => False) rfl rfl ?aP (fun _ hk => hk.elim) ?aF ?aO ?aB ?aS ?aL ?_; (case aP => exact rfl); (case aB => exact qz1); (case aF => exact qz22); (case aO => exact (rr_ HO_7.out)); (case aS => exact qz32); (case aL => have := LMc35.out; omega); intro v175 w39 ho hb hg hat; rw [← Ny174.out] at ho; replace HO_8 := aM (Kd.R_after (ok := (fun _ => True)) qz14 hg hat); replace BK151 := aM (blk_grown (bk_ BK151.out) hg (Kd.R_ne HO_7.out BK151.out (by decide))); replace BK152 := aM (blk_grown (bk_ BK152.out) hg (Kd.R_ne HO_7.out BK152.out (by decide))); replace HB := aM (hb); have HO176 := aM (ho); clear HO_7; clear ho hb hg hat) | ((with_reducible refine gate_dst (N := 59) rfl ?_); refine Kd.R_lit (Kd.int .i64) _ 3 ?hg (N := 59) ?hd (xs := ([] : List Int)) (inner := []) (ok := fun _ => True) (okp := fun _ => True) ?hr ?hp (fun _ hk => hk) trivial (Below.refl _ _) (Nat.le_refl _) (by simp) ?_; (case hd => rfl); (case hg => rfl); (case hr => exact qz9); (case hp => exact (Reps.none _ _)); intro v178 w40 ho41 hb hg_ hnew_; clear hg_ hnew_; (first | rw [← Ny177.out] at ho41 | (simp only [Int.reduceToNat] at ho41; rw [← Ny177.out] at ho41)); have HO179 := aM (Kd.R_lower (Kd.R_new' (Kd.R_new' ho41 (Kd.R_lt (rr_ HO_8.out))) (Kd.R_lt (rr_ HO176.out))) (below_size qz1)); replace HO_8 := aM (Kd.R_elder' (rr_ HO_8.out) (Kd.R_base ho41) hb); replace HO176 := aM (Kd.R_elder' (rr_ HO176.out) (Kd.R_base ho41) hb); replace BK151 := bB_ BK151 hb; replace BK152 := bB_ BK152 hb; replace HB := bS_ hb; clear hb ho41))
 go_loopg [10, 11] k1 (fun kq v10 v11 w' => ∃ (x7_2 : List Int) (x10_2 : List Int) (x11_2 : Int), v11 = .int .i64 x11_2 ∧ Aside0 (spec_l7Choices.l1 kq l2 x7_2 x10_2 x11_2 a1_0 a1_1 a1_2 a1_3 a1_4 = some r) ∧ Aside0 (kq ≤ k1) ∧ Aside0 (Kd.R (Kd.int .i64) 3 w' w.heap.size (fun k_ => some k_ ≠ (v10 : Value).ownBlock) v175 x7_2) ∧ Aside0 (Kd.R (Kd.int .i64) 3 w' w.heap.size (fun k_ => some k_ ≠ (v175 : Value).ownBlock) v10 x10_2) ∧ Aside0 (w'.heap[gb151]? = some (.cells #[.int .i64 a0_0, .int .i64 a0_1, (.slice A0_2 l0_2.length c0_2)] 43 (0, 0))) ∧ Aside0 (w'.heap[gb152]? = some (.cells #[.int .i64 a1_0, .int .i64 a1_1, .int .i64 a1_2, .bool a1_3, .int .i64 a1_4] 37 (0, 0))) ∧ Aside0 (Below w.heap.size w w'))
 case atStart => exact ⟨(y174), (y177), (0), qz7, H', ⟨Nat.le_refl _⟩, ⟨by (with_reducible repeat (first | apply Kd.R_alloc | apply Kd.R_drewN | apply Kd.R_drew)); exact Kd.R_mono HO176.out (fun _ hk => hk.2)⟩, ⟨by (with_reducible repeat (first | apply Kd.R_alloc | apply Kd.R_drewN | apply Kd.R_drew)); exact Kd.R_mono HO179.out (fun _ hk => hk.2)⟩, ⟨bk_ BK151.out⟩, ⟨bk_ BK152.out⟩, ⟨qz1⟩⟩
 case round =>
 clear H'
 try clear c2
 try clear c13
 try clear c13b0
 try clear c35
 try clear hcz38_0 hcz38_1 hcz38_2 hcz38_3 hcz38_4 hfz38_0 hfz38_1 hfz38_2 hfz38_3 hfz38_4
 obtain ⟨x7_2, x10_2, x11_2, rfl, HA, HK2, HO_7, HO_10, BK151, BK152, HB⟩ := hrel
 cases gk with
 | zero => exact absurd HA.out (by simp [spec_l7Choices.l1])
 | succ k2 =>
 have H := HA.out
 clear HA
 simp only [spec_l7Choices.l1] at H
 replace H := iE_ H
 rcases H with ⟨c42b0, H⟩ | ⟨c42b0, H⟩
 {
 replace H := iD_ H
 obtain ⟨c43b0, H⟩ := H
 replace H := iN_ H
 obtain ⟨c44, H⟩ := H
 have LMc44 := aM c44
 clear c44
 obtain ⟨y181, hy181⟩ : ∃ y_ : List Int, y_ = (x10_2 ++ [rd x7_2 x11_2]) := ⟨_, rfl⟩
 replace H : (spec_l7Choices.l2 k2 l2 x7_2 y181 x11_2 (x10_2.length : Int) a1_0 a1_1 a1_2 a1_3 a1_4) = some r := by first | (rw [hy181]; exact H) | exact H
 have Ny181 := aM hy181
 clear hy181
 have H' := aM H
 clear H
 obtain ⟨Ao45, co45, eo45⟩ := Kd.R_slice HO_7.out
 subst eo45
 obtain ⟨Ao46, co46, eo46⟩ := Kd.R_slice HO_10.out
 subst eo46
 have p180 : (0 ≤ (x11_2 : Int)) = True := et_
 have q180 : (x11_2 < (x7_2.length : Int)) = True := et_
 obtain ⟨ad180, e180, hx180_0⟩ := Kd.at_int (Kd.R_reads' HO_7.out).2.2 x11_2 dt_ dt_
 cases e180
 go_wp2_with (first | ((with_reducible refine gate_builtin (b := .append) (xs := #[.tmp 68, .tmp 73]) rfl ?_); at_builtin; refine Kd.R_append (Kd.int .i64) (w0 := w) w.heap.size rfl (.tmp 68) (.tmp 73) 24 3 (.int .i64 0) 8 rfl Try.underlying24 info3 rfl (by decide) (by omega) (.slice Ao46 x10_2.length co46) x10_2 (rd x7_2 x11_2) [.int .i64 (rd x7_2 x11_2)] (fun k_ => some k_ ≠ (.slice (some ad180) x7_2.length co45 : Value).ownBlock) (fun _ => False) rfl rfl ?aP (fun _ hk => hk.elim) ?aF ?aO ?aB ?aS ?aL ?_; (case aP => exact rfl); (case aB => exact qz1); (case aF => exact (fun k_ hk => Kd.fresh' (Kd.R_lt (rr_ HO_7.out)) k_ hk)); (case aO => exact (rr_ HO_10.out)); (case aS => exact qz32); (case aL => have := LMc44.out; omega); intro v182 w47 ho hb hg hat; rw [← Ny181.out] at ho; replace HO_7 := aM (Kd.R_after (ok := (fun _ => True)) qz19 hg hat); replace BK151 := aM (blk_grown (bk_ BK151.out) hg (Kd.R_ne HO_10.out BK151.out (by decide))); replace BK152 := aM (blk_grown (bk_ BK152.out) hg (Kd.R_ne HO_10.out BK152.out (by decide))); replace HB := aM (hb); have HO183 := aM (ho); clear HO_10; clear ho hb hg hat))
 go_loopg [12] k2 (fun kq v12 w' => ∃ (x10_3 : List Int) (x12_3 : Int), v12 = .int .i64 x12_3 ∧ Aside0 (spec_l7Choices.l2 kq l2 x7_2 x10_3 x11_2 x12_3 a1_0 a1_1 a1_2 a1_3 a1_4 = some r) ∧ Aside0 (kq ≤ k2) ∧ Aside0 (Kd.R (Kd.int .i64) 3 w' w.heap.size (fun k_ => some k_ ≠ (v182 : Value).ownBlock) (.slice (some ad180) x7_2.length co45) x7_2) ∧ Aside0 (Kd.R (Kd.int .i64) 3 w' w.heap.size (fun k_ => some k_ ≠ ((.slice (some ad180) x7_2.length co45) : Value).ownBlock) v182 x10_3) ∧ Aside0 (w'.heap[gb151]? = some (.cells #[.int .i64 a0_0, .int .i64 a0_1, (.slice A0_2 l0_2.length c0_2)] 43 (0, 0))) ∧ Aside0 (w'.heap[gb152]? = some (.cells #[.int .i64 a1_0, .int .i64 a1_1, .int .i64 a1_2, .bool a1_3, .int .i64 a1_4] 37 (0, 0))) ∧ Aside0 (Below w.heap.size w w'))
 case atStart => exact ⟨(y181), ((x10_2.length : Int)), qz7, H', ⟨Nat.le_refl _⟩, ⟨by (with_reducible repeat (first | apply Kd.R_alloc | apply Kd.R_drewN | apply Kd.R_drew)); exact Kd.R_mono HO_7.out (fun _ hk => hk.2)⟩, ⟨rr_ HO183.out⟩, ⟨bk_ BK151.out⟩, ⟨bk_ BK152.out⟩, ⟨qz1⟩⟩
 case round =>
 clear H'
 try clear c2
 try clear c13
 try clear c13b0
 try clear c35
 try clear c42
 try clear c42b0
 try clear c43
 try clear c43b0
 try clear c44
 try clear hcz38_0 hcz38_1 hcz38_2 hcz38_3 hcz38_4 hfz38_0 hfz38_1 hfz38_2 hfz38_3 hfz38_4
 try clear hx180_0
 try clear p180
 try clear q180
 obtain ⟨x10_3, x12_3, rfl, HA, HK3, HO_7, HO_10, BK151, BK152, HB⟩ := hrel
 cases gk with
 | zero => exact absurd HA.out (by simp [spec_l7Choices.l2])
 | succ k3 =>
 have H := HA.out
 clear HA
 simp only [spec_l7Choices.l2] at H
 replace H := iE_ H
 rcases H with ⟨c48b0, H⟩ | ⟨c48b0, H⟩
 {
 replace H := iD_ H
 obtain ⟨c49b0, H⟩ := H
 replace H := iD_ H
 obtain ⟨c50b0, H⟩ := H
 obtain ⟨ji51, hji51⟩ : ∃ j_ : Int, (wrap64 (x12_3 - 1)) = j_ := ⟨_, rfl⟩
 replace H : (if 0 ≤ (ji51) then (if (ji51) < (x10_3.length : Int) then ((spec_l7Before.f a1_0 a1_1 a1_2 a1_3 a1_4 l2 (rd x7_2 x11_2) (rd x10_3 (ji51))).bind fun t186 => (if t186 = true then (if 0 ≤ x12_3 then (if x12_3 < (x10_3.length : Int) then (spec_l7Choices.l2 k3 l2 x7_2 (x10_3.set (x12_3 : Int).toNat (rd x10_3 (ji51))) x11_2 ji51 a1_0 a1_1 a1_2 a1_3 a1_4) else (none)) else (none)) else (if 0 ≤ x12_3 then (if x12_3 < (x10_3.length : Int) then (spec_l7Choices.l1 k3 l2 x7_2 (x10_3.set (x12_3 : Int).toNat (rd x7_2 x11_2)) (wrap64 (x11_2 + 1)) a1_0 a1_1 a1_2 a1_3 a1_4) else (none)) else (none)))) else (none)) else (none)) = some r := by first | (rw [hji51] at H; exact H) | (simp only [hji51] at H ⊢; exact H)
 have hji51w : (IntKind.i64.wrap (x12_3 - 1)) = ji51 := (i64_w _).trans hji51
 replace H := iD_ H
 obtain ⟨c52b0, H⟩ := H
 replace H := iD_ H
 obtain ⟨c53b0, H⟩ := H
 replace H := Option.bind_eq_some_iff.mp H
 obtain ⟨t186, A540, H⟩ := H
 have A54 := aM A540
 clear A540
 replace H := iB_ H
 rcases H with ⟨rfl, H⟩ | ⟨rfl, H⟩
 {
 replace H := iD_ H
 obtain ⟨c56b0, H⟩ := H
 replace H := iD_ H
 obtain ⟨c57b0, H⟩ := H
 obtain ⟨y188, hy188⟩ : ∃ y_ : List Int, y_ = (x10_3.set (x12_3 : Int).toNat (rd x10_3 (ji51))) := ⟨_, rfl⟩
 replace H : (spec_l7Choices.l2 k3 l2 x7_2 y188 x11_2 ji51 a1_0 a1_1 a1_2 a1_3 a1_4) = some r := by first | (rw [hy188]; exact H) | exact H
 have Ny188 := aM hy188
 clear hy188
 have H' := aM H
 clear H
 try go_wp2
 replace HO_7 := aM (Kd.R_drew HO_7.out)
 replace HO_10 := aM (Kd.R_drew HO_10.out)
 replace BK151 := aM (blk_drew BK151.out)
 replace BK152 := aM (blk_drew BK152.out)
 replace HB := aM (below_drew1 HB.out)
 have p184 : (0 ≤ (x11_2 : Int)) = True := et_
 have q184 : (x11_2 < (x7_2.length : Int)) = True := et_
 obtain ⟨ad184, e184, hx184_0⟩ := Kd.at_int (Kd.R_reads' HO_7.out).2.2 x11_2 dt_ dt_
 obtain rfl := iJ_ e184
 obtain ⟨Ao60, co60, eo60⟩ := Kd.R_slice HO_10.out
 (first | subst eo60 | (injection eo60 with f1_ f2_ f3_; have f4_ := f1_.symm; have f5_ := f3_.symm; clear f1_ f2_ f3_; subst f4_; subst f5_))
 have p185 : (0 ≤ ((ji51) : Int)) = True := et_
 have q185 : ((ji51) < (x10_3.length : Int)) = True := et_
 obtain ⟨ad185, e185, hx185_0⟩ := Kd.at_int (Kd.R_reads' HO_10.out).2.2 (ji51) dt_ dt_
 cases e185
 refine start_ (n := 16) (S := fun w' => w'.cell? ⟨gb152, 0, none⟩ = some (.int .i64 a1_0) ∧ w'.cell? ⟨gb152, 1, none⟩ = some (.int .i64 a1_1) ∧ w'.cell? ⟨gb152, 2, none⟩ = some (.int .i64 a1_2) ∧ w'.cell? ⟨gb152, 3, none⟩ = some (.bool a1_3) ∧ w'.cell? ⟨gb152, 4, none⟩ = some (.int .i64 a1_4) ∧ w'.cell? (ad180.add (x11_2).toNat) = some (.int .i64 (rd x7_2 x11_2)) ∧ w'.cell? (ad185.add ((ji51)).toNat) = some (.int .i64 (rd x10_3 (ji51)))) (ds := []) #[false, false, false, false, false, false, false, false, false, false, false, false, false, false, false, false] (by kernel_rfl) rfl rfl ⟨(blk_cell BK152.out 0).trans rfl, (blk_cell BK152.out 1).trans rfl, (blk_cell BK152.out 2).trans rfl, (blk_cell BK152.out 3).trans rfl, (blk_cell BK152.out 4).trans rfl, hx184_0, hx185_0⟩ (fun hHeld => ?_); refine with_tabW spec_l7Choices.tab15 spec_l7Choices.bits15 (fun HT_ HW_ => ?_)
 generalize wr.drew = w59 at HO_7 HO_10 BK151 BK152 HB hx184_0 hx185_0 hHeld ⊢
 refine pI_ 0 (bqz 16 1) ?_
 refine jI_ 1 ?_
 refine jI_ 2 ?_
 refine jI_ 4 ?_
 refine jI_ 5 ?_
 refine jI_ 6 ?_
 refine jI_ 7 ?_
 refine jI_ 9 ?_
 refine jI_ 10 ?_
 refine jI_ 11 ?_
 refine jI_ 12 ?_
 refine sI7_ 3 ?_
 refine sI7_ 8 ?_
 refine sI7_ 13 ?_
 refine oI_ 14 89 (bqz 16 32767) (fun K hK => ?_)
 refine goes_ Try.func100 (by kernel_rfl) rfl #[.agg #[.int .i64 a1_0, .int .i64 a1_1, .int .i64 a1_2, .bool a1_3, .int .i64 a1_4], .slice A2 l2.length c2, .int .i64 (rd x7_2 x11_2), .int .i64 (rd x10_3 (ji51))] (by rfl) rfl rfl (by (try simp only [List.map_toArray, List.map_cons, List.map_nil]); first | done | (simp only [hji51]; rfl) | rfl | (simp only [List.length_drop, List.length_take]; rfl)) ?_
 with_reducible refine (spec_l7Before.calls a1_0 a1_1 a1_2 a1_3 a1_4 _ _ l2 (rd x7_2 x11_2) (rd x10_3 (ji51)) true _ ?side1 ?side2 A54.out).mono ?_
 (case side1 => exact qz15)
 (case side2 => exact HC2.out)
 rintro e w61 ⟨rfl, hb⟩
 have HS5_ := (hb.cell (World.block_lt_of_cell? _ _ (hHeld.2.2.2.2.2.1))).trans (hHeld.2.2.2.2.2.1)
 have HS6_ := (hb.cell (World.block_lt_of_cell? _ _ (hHeld.2.2.2.2.2.2))).trans (hHeld.2.2.2.2.2.2)
 refine ⟨_, rfl, ?_⟩
 replace HO_7 := aM (Kd.R_below (rr_ HO_7.out) hb)
 replace HO_10 := aM (Kd.R_below (rr_ HO_10.out) hb)
 replace BK151 := bB_ BK151 hb
 replace BK152 := bB_ BK152 hb
 replace HB := bS_ hb
 (try clear hb)
 (try clear hb2)
 (try clear hk)
 (try clear hi)
 refine hK.out _ _ (b5A_ BK152 ⟨HS5_, HS6_⟩) (fun hHeld => ?_)
 clear hK K
 refine nm_ 89 ?_
 refine pI_ 15 (bqz 16 65535) ?_
 refine dN_ ?_
 have p187 : (0 ≤ ((ji51) : Int)) = True := et_
 have q187 : ((ji51) < (x10_3.length : Int)) = True := et_
 obtain ⟨ad187, e187, hx187_0⟩ := Kd.at_int (Kd.R_reads' HO_10.out).2.2 (ji51) dt_ dt_
 obtain rfl := iJ_ e187
 have p58 : 0 ≤ (x12_3 : Int) := dt_
 have q58 : (x12_3 : Int) < ((x10_3.length : Int) : Int) := dt_
 obtain ⟨go58, co58, eo58, gb58, gl58, cl58, HG58⟩ := Kd.R_form HO_10.out (by omega)
 (first | cases eo58 | (injection eo58 with ea_ en_ ec_; (first | subst ea_ | (injection ea_ with ea_; subst ea_)); subst ec_; clear en_))
 have GB58 := aM gb58
 have GG58 := aM HG58
 clear gb58 gl58 HG58
 (first | simp only [add_plain] at hx185_0 | skip)
 (first | simp only [add_plain] at hx187_0 | skip)
 obtain ⟨hx58_0, hf58_0⟩ := Kd.R_celln 0 HO_10.out (x12_3 : Int) p58 q58
 replace p58 := eq_true p58
 replace q58 := eq_true q58
 obtain ⟨hy62_, hz62_⟩ := Kd.R_celln 0 HO_10.out (x12_3 : Int) (dt_) (dt_)
 have HP62 := Kd.R_putg HO_10.out (x12_3 : Int) (rd x10_3 (ji51))
 try go_wp2_with (first | ((with_reducible refine gate_store (t := 3) (p := 98) rfl ?_); refine store_event (t := 3) (p := 98) (v := ?vo_w63) (w1 := (w61.setCell ⟨go58, (x12_3 : Int).toNat, none⟩ (.int .i64 (rd x10_3 (ji51))))) ?hg ?ho ?hn ?hr ?_; (case ho => rfl); (case hg => rfl); (case hn => rfl); (case hr => exact qz9); intro w63 hw; have hg : w61.grownBy w63 (some go58) := (by rw [hw]; exact HP62.2); have hp_ : Kd.R (Kd.int .i64) 3 w63 w.heap.size (fun k_ => some k_ ≠ (.slice (some ad180) x7_2.length co45 : Value).ownBlock) (.slice (some ⟨go58, 0, none⟩) x10_3.length co60) y188 := (by rw [hw, Ny188.out]; exact HP62.1); clear HP62; replace HO_7 := aM (Kd.R_after (v := (.slice (some ⟨go58, 0, none⟩) x10_3.length co60)) (v1 := (.slice (some ⟨go58, 0, none⟩) x10_3.length co60)) (ok := (fun _ => True)) qz19 hg (.inl rfl)); replace BK151 := aM (blk_grown (bk_ BK151.out) hg (Kd.R_ne HO_10.out BK151.out (by decide))); replace BK152 := aM (blk_grown (bk_ BK152.out) hg (Kd.R_ne HO_10.out BK152.out (by decide))); replace HO_10 := aM (hp_); replace HB := aM ((by rw [hw]; exact below_set (HB.out) GB58.out : Below w.heap.size w w63)); clear hg hw hp_))
 go_roundg k3
 case measure => have := HK1.out; have := HK2.out; have := HK3.out; omega
 case rel => exact ⟨(y188), (ji51), (by first | rfl | (simp; done) | (simp only [← hji51] <;> (first | rfl | simp)) | (simp [*]; done)), H', ⟨by have := HK1.out; have := HK2.out; have := HK3.out; omega⟩, ⟨by (with_reducible repeat (first | apply Kd.R_alloc | apply Kd.R_drewN | apply Kd.R_drew)); exact Kd.R_mono HO_7.out (fun _ hk => hk.2)⟩, ⟨rm_ HO_10.out⟩, ⟨bk_ BK151.out⟩, ⟨bk_ BK152.out⟩, ⟨qz1⟩⟩
 }
 {
 replace H := iD_ H
 obtain ⟨c64b0, H⟩ := H
 replace H := iD_ H
 obtain ⟨c65b0, H⟩ := H
 obtain ⟨y190, hy190⟩ : ∃ y_ : List Int, y_ = (x10_3.set (x12_3 : Int).toNat (rd x7_2 x11_2)) := ⟨_, rfl⟩
 replace H : (spec_l7Choices.l1 k3 l2 x7_2 y190 (wrap64 (x11_2 + 1)) a1_0 a1_1 a1_2 a1_3 a1_4) = some r := by first | (rw [hy190]; exact H) | exact H
 have Ny190 := aM hy190
 clear hy190
 have H' := aM H
 clear H
 try go_wp2
 replace HO_7 := aM (Kd.R_drew HO_7.out)
 replace HO_10 := aM (Kd.R_drew HO_10.out)
 replace BK151 := aM (blk_drew BK151.out)
 replace BK152 := aM (blk_drew BK152.out)
 replace HB := aM (below_drew1 HB.out)
 have p184 : (0 ≤ (x11_2 : Int)) = True := et_
 have q184 : (x11_2 < (x7_2.length : Int)) = True := et_
 obtain ⟨ad184, e184, hx184_0⟩ := Kd.at_int (Kd.R_reads' HO_7.out).2.2 x11_2 dt_ dt_
 obtain rfl := iJ_ e184
 obtain ⟨Ao68, co68, eo68⟩ := Kd.R_slice HO_10.out
 (first | subst eo68 | (injection eo68 with f1_ f2_ f3_; have f4_ := f1_.symm; have f5_ := f3_.symm; clear f1_ f2_ f3_; subst f4_; subst f5_))
 have p185 : (0 ≤ ((ji51) : Int)) = True := et_
 have q185 : ((ji51) < (x10_3.length : Int)) = True := et_
 obtain ⟨ad185, e185, hx185_0⟩ := Kd.at_int (Kd.R_reads' HO_10.out).2.2 (ji51) dt_ dt_
 cases e185
 refine start_ (n := 16) (S := fun w' => w'.cell? ⟨gb152, 0, none⟩ = some (.int .i64 a1_0) ∧ w'.cell? ⟨gb152, 1, none⟩ = some (.int .i64 a1_1) ∧ w'.cell? ⟨gb152, 2, none⟩ = some (.int .i64 a1_2) ∧ w'.cell? ⟨gb152, 3, none⟩ = some (.bool a1_3) ∧ w'.cell? ⟨gb152, 4, none⟩ = some (.int .i64 a1_4) ∧ w'.cell? (ad180.add (x11_2).toNat) = some (.int .i64 (rd x7_2 x11_2)) ∧ w'.cell? (ad185.add ((ji51)).toNat) = some (.int .i64 (rd x10_3 (ji51)))) (ds := []) #[false, false, false, false, false, false, false, false, false, false, false, false, false, false, false, false] (by kernel_rfl) rfl rfl ⟨(blk_cell BK152.out 0).trans rfl, (blk_cell BK152.out 1).trans rfl, (blk_cell BK152.out 2).trans rfl, (blk_cell BK152.out 3).trans rfl, (blk_cell BK152.out 4).trans rfl, hx184_0, hx185_0⟩ (fun hHeld => ?_); refine with_tabW spec_l7Choices.tab15 spec_l7Choices.bits15 (fun HT_ HW_ => ?_)
 generalize wr.drew = w67 at HO_7 HO_10 BK151 BK152 HB hx184_0 hx185_0 hHeld ⊢
 refine pI_ 0 (bqz 16 1) ?_
 refine jI_ 1 ?_
 refine jI_ 2 ?_
 refine jI_ 4 ?_
 refine jI_ 5 ?_
 refine jI_ 6 ?_
 refine jI_ 7 ?_
 refine jI_ 9 ?_
 refine jI_ 10 ?_
 refine jI_ 11 ?_
 refine jI_ 12 ?_
 refine sI7_ 3 ?_
 refine sI7_ 8 ?_
 refine sI7_ 13 ?_
 refine oI_ 14 89 (bqz 16 32767) (fun K hK => ?_)
 refine goes_ Try.func100 (by kernel_rfl) rfl #[.agg #[.int .i64 a1_0, .int .i64 a1_1, .int .i64 a1_2, .bool a1_3, .int .i64 a1_4], .slice A2 l2.length c2, .int .i64 (rd x7_2 x11_2), .int .i64 (rd x10_3 (ji51))] (by rfl) rfl rfl (by (try simp only [List.map_toArray, List.map_cons, List.map_nil]); first | done | (simp only [hji51]; rfl) | rfl | (simp only [List.length_drop, List.length_take]; rfl)) ?_
 with_reducible refine (spec_l7Before.calls a1_0 a1_1 a1_2 a1_3 a1_4 _ _ l2 (rd x7_2 x11_2) (rd x10_3 (ji51)) false _ ?side1 ?side2 A54.out).mono ?_
 (case side1 => exact qz15)
 (case side2 => exact HC2.out)
 rintro e w69 ⟨rfl, hb⟩
 have HS5_ := (hb.cell (World.block_lt_of_cell? _ _ (hHeld.2.2.2.2.2.1))).trans (hHeld.2.2.2.2.2.1)
 have HS6_ := (hb.cell (World.block_lt_of_cell? _ _ (hHeld.2.2.2.2.2.2))).trans (hHeld.2.2.2.2.2.2)
 refine ⟨_, rfl, ?_⟩
 replace HO_7 := aM (Kd.R_below (rr_ HO_7.out) hb)
 replace HO_10 := aM (Kd.R_below (rr_ HO_10.out) hb)
 replace BK151 := bB_ BK151 hb
 replace BK152 := bB_ BK152 hb
 replace HB := bS_ hb
 (try clear hb)
 (try clear hb2)
 (try clear hk)
 (try clear hi)
 refine hK.out _ _ (b5A_ BK152 ⟨HS5_, HS6_⟩) (fun hHeld => ?_)
 clear hK K
 refine nm_ 89 ?_
 refine pI_ 15 (bqz 16 65535) ?_
 refine dN_ ?_
 have p189 : (0 ≤ (x11_2 : Int)) = True := et_
 have q189 : (x11_2 < (x7_2.length : Int)) = True := et_
 obtain ⟨ad189, e189, hx189_0⟩ := Kd.at_int (Kd.R_reads' HO_7.out).2.2 x11_2 dt_ dt_
 obtain rfl := iJ_ e189
 have p66 : 0 ≤ (x12_3 : Int) := dt_
 have q66 : (x12_3 : Int) < ((x10_3.length : Int) : Int) := dt_
 obtain ⟨go66, co66, eo66, gb66, gl66, cl66, HG66⟩ := Kd.R_form HO_10.out (by omega)
 (first | cases eo66 | (injection eo66 with ea_ en_ ec_; (first | subst ea_ | (injection ea_ with ea_; subst ea_)); subst ec_; clear en_))
 have GB66 := aM gb66
 have GG66 := aM HG66
 clear gb66 gl66 HG66
 (first | simp only [add_plain] at hx185_0 | skip)
 obtain ⟨hx66_0, hf66_0⟩ := Kd.R_celln 0 HO_10.out (x12_3 : Int) p66 q66
 replace p66 := eq_true p66
 replace q66 := eq_true q66
 obtain ⟨hy70_, hz70_⟩ := Kd.R_celln 0 HO_10.out (x12_3 : Int) (dt_) (dt_)
 have HP70 := Kd.R_putg HO_10.out (x12_3 : Int) (rd x7_2 x11_2)
 try go_wp2_with (first | ((with_reducible refine gate_store (t := 3) (p := 107) rfl ?_); refine store_event (t := 3) (p := 107) (v := ?vo_w71) (w1 := (w69.setCell ⟨go66, (x12_3 : Int).toNat, none⟩ (.int .i64 (rd x7_2 x11_2)))) ?hg ?ho ?hn ?hr ?_; (case ho => rfl); (case hg => rfl); (case hn => rfl); (case hr => exact qz9); intro w71 hw; have hg : w69.grownBy w71 (some go66) := (by rw [hw]; exact HP70.2); have hp_ : Kd.R (Kd.int .i64) 3 w71 w.heap.size (fun k_ => some k_ ≠ (.slice (some ad180) x7_2.length co45 : Value).ownBlock) (.slice (some ⟨go66, 0, none⟩) x10_3.length co68) y190 := (by rw [hw, Ny190.out]; exact HP70.1); clear HP70; replace HO_7 := aM (Kd.R_after (v := (.slice (some ⟨go66, 0, none⟩) x10_3.length co68)) (v1 := (.slice (some ⟨go66, 0, none⟩) x10_3.length co68)) (ok := (fun _ => True)) qz19 hg (.inl rfl)); replace BK151 := aM (blk_grown (bk_ BK151.out) hg (Kd.R_ne HO_10.out BK151.out (by decide))); replace BK152 := aM (blk_grown (bk_ BK152.out) hg (Kd.R_ne HO_10.out BK152.out (by decide))); replace HO_10 := aM (hp_); replace HB := aM ((by rw [hw]; exact below_set (HB.out) GB66.out : Below w.heap.size w w71)); clear hg hw hp_))
 go_roundg k3
 case measure => have := HK1.out; have := HK2.out; have := HK3.out; omega
 case rel => exact ⟨(x7_2), (y190), (wrap64 (x11_2 + 1)), qz7, H', ⟨by have := HK1.out; have := HK2.out; have := HK3.out; omega⟩, ⟨by (with_reducible repeat (first | apply Kd.R_alloc | apply Kd.R_drewN | apply Kd.R_drew)); exact Kd.R_mono HO_7.out (fun _ hk => hk.2)⟩, ⟨rm_ HO_10.out⟩, ⟨bk_ BK151.out⟩, ⟨bk_ BK152.out⟩, ⟨qz1⟩⟩
 }
 }
 {
 replace H := iD_ H
 obtain ⟨c72b0, H⟩ := H
 replace H := iD_ H
 obtain ⟨c73b0, H⟩ := H
 replace H := iD_ H
 obtain ⟨c74b0, H⟩ := H
 replace H := iD_ H
 obtain ⟨c75b0, H⟩ := H
 obtain ⟨y192, hy192⟩ : ∃ y_ : List Int, y_ = (x10_3.set (x12_3 : Int).toNat (rd x7_2 x11_2)) := ⟨_, rfl⟩
 replace H : (spec_l7Choices.l1 k3 l2 x7_2 y192 (wrap64 (x11_2 + 1)) a1_0 a1_1 a1_2 a1_3 a1_4) = some r := by first | (rw [hy192]; exact H) | exact H
 have Ny192 := aM hy192
 clear hy192
 have H' := aM H
 clear H
 try go_wp2
 replace HO_7 := aM (Kd.R_drew HO_7.out)
 replace HO_10 := aM (Kd.R_drew HO_10.out)
 replace BK151 := aM (blk_drew BK151.out)
 replace BK152 := aM (blk_drew BK152.out)
 replace HB := aM (below_drew1 HB.out)
 refine start_ (n := 16) (S := fun w' => True) (ds := []) #[false, false, false, false, false, false, false, false, false, false, false, false, false, false, false, false] (by kernel_rfl) rfl rfl trivial (fun hHeld => ?_); refine with_tabW spec_l7Choices.tab15 spec_l7Choices.bits15 (fun HT_ HW_ => ?_)
 generalize wr.drew = w77 at HO_7 HO_10 BK151 BK152 HB hHeld ⊢
 refine pI_ 0 (bqz 16 1) ?_
 refine jI_ 1 ?_
 refine jI_ 2 ?_
 refine jU_ 3 ?_
 refine jU_ 4 ?_
 refine jU_ 5 ?_
 refine jU_ 6 ?_
 refine jU_ 7 ?_
 refine jU_ 8 ?_
 refine jU_ 9 ?_
 refine jU_ 10 ?_
 refine jU_ 11 ?_
 refine jU_ 12 ?_
 refine jU_ 13 ?_
 refine jU_ 14 ?_
 refine jI_ 15 ?_
 refine dN_ ?_
 have p191 : (0 ≤ (x11_2 : Int)) = True := et_
 have q191 : (x11_2 < (x7_2.length : Int)) = True := et_
 obtain ⟨ad191, e191, hx191_0⟩ := Kd.at_int (Kd.R_reads' HO_7.out).2.2 x11_2 dt_ dt_
 obtain rfl := iJ_ e191
 have p76 : 0 ≤ (x12_3 : Int) := dt_
 have q76 : (x12_3 : Int) < ((x10_3.length : Int) : Int) := dt_
 obtain ⟨go76, co76, eo76, gb76, gl76, cl76, HG76⟩ := Kd.R_form HO_10.out (by omega)
 (first | cases eo76 | (injection eo76 with ea_ en_ ec_; (first | subst ea_ | (injection ea_ with ea_; subst ea_)); subst ec_; clear en_))
 have GB76 := aM gb76
 have GG76 := aM HG76
 clear gb76 gl76 HG76
 obtain ⟨hx76_0, hf76_0⟩ := Kd.R_celln 0 HO_10.out (x12_3 : Int) p76 q76
 replace p76 := eq_true p76
 replace q76 := eq_true q76
 obtain ⟨hy78_, hz78_⟩ := Kd.R_celln 0 HO_10.out (x12_3 : Int) (dt_) (dt_)
 have HP78 := Kd.R_putg HO_10.out (x12_3 : Int) (rd x7_2 x11_2)
 try go_wp2_with (first | ((with_reducible refine gate_store (t := 3) (p := 107) rfl ?_); refine store_event (t := 3) (p := 107) (v := ?vo_w79) (w1 := (w77.setCell ⟨go76, (x12_3 : Int).toNat, none⟩ (.int .i64 (rd x7_2 x11_2)))) ?hg ?ho ?hn ?hr ?_; (case ho => rfl); (case hg => rfl); (case hn => rfl); (case hr => exact qz9); intro w79 hw; have hg : w77.grownBy w79 (some go76) := (by rw [hw]; exact HP78.2); have hp_ : Kd.R (Kd.int .i64) 3 w79 w.heap.size (fun k_ => some k_ ≠ (.slice (some ad180) x7_2.length co45 : Value).ownBlock) (.slice (some ⟨go76, 0, none⟩) x10_3.length co76) y192 := (by rw [hw, Ny192.out]; exact HP78.1); clear HP78; replace HO_7 := aM (Kd.R_after (v := (.slice (some ⟨go76, 0, none⟩) x10_3.length co76)) (v1 := (.slice (some ⟨go76, 0, none⟩) x10_3.length co76)) (ok := (fun _ => True)) qz19 hg (.inl rfl)); replace BK151 := aM (blk_grown (bk_ BK151.out) hg (Kd.R_ne HO_10.out BK151.out (by decide))); replace BK152 := aM (blk_grown (bk_ BK152.out) hg (Kd.R_ne HO_10.out BK152.out (by decide))); replace HO_10 := aM (hp_); replace HB := aM ((by rw [hw]; exact below_set (HB.out) GB76.out : Below w.heap.size w w79)); clear hg hw hp_))
 go_roundg k3
 case measure => have := HK1.out; have := HK2.out; have := HK3.out; omega
 case rel => exact ⟨(x7_2), (y192), (wrap64 (x11_2 + 1)), qz7, H', ⟨by have := HK1.out; have := HK2.out; have := HK3.out; omega⟩, ⟨by (with_reducible repeat (first | apply Kd.R_alloc | apply Kd.R_drewN | apply Kd.R_drew)); exact Kd.R_mono HO_7.out (fun _ hk => hk.2)⟩, ⟨rm_ HO_10.out⟩, ⟨bk_ BK151.out⟩, ⟨bk_ BK152.out⟩, ⟨qz1⟩⟩
 }
 }
 {
 obtain rfl := Option.some.inj H
 obtain ⟨Ao80, co80, eo80⟩ := Kd.R_slice HO_7.out
 subst eo80
 go_wp2
 go_ret
 exact ⟨_, qzw, by (with_reducible repeat (first | apply Kd.R_alloc | apply Kd.R_drewN | apply Kd.R_drew)); exact Kd.R_mono HO_10.out (fun _ hk => trivial), qz1⟩
 }
 }
/-! ### spec_l2Field: function 101 -/
mutual
def spec_l2Field.l0 : Nat → Int → Bool → List Int → Int → Int → Int → List Int → Option (List Int)
 | 0, _, _, _, _, _, _, _ => none
 | k + 1, x1, x2, x7, x8, x194000, x194001, x194002 => if x8 < (x194002.length : Int) then (if x7.length < 17592186044416 then (spec_l2Field.l0 k x1 x2 (x7 ++ [(-1)]) (wrap64 (x8 + 1)) x194000 x194001 x194002) else (none)) else (if 0 ≤ x1 then (if x1 < (x7.length : Int) then (spec_l2Field.l1 k x1 x2 (x7.set (x1 : Int).toNat 0) (([x1] : List Int)) 0 x194000 x194001 x194002) else (none)) else (none))
def spec_l2Field.l1 : Nat → Int → Bool → List Int → List Int → Int → Int → Int → List Int → Option (List Int)
 | 0, _, _, _, _, _, _, _, _ => none
 | k + 1, x1, x2, x7, x9, x10, x194000, x194001, x194002 => if x10 < (x9.length : Int) then (if 0 ≤ x10 then (if (rd x9 x10) = x1 then (spec_l2Field.j2 k x1 x2 x7 x9 x10 (rd x9 x10) false x194000 x194001 x194002) else (if x2 = true then (if 0 ≤ (rd x9 x10) then (if (rd x9 x10) < (x194002.length : Int) then (spec_l2Field.j2 k x1 x2 x7 x9 x10 (rd x9 x10) ((rd x194002 (rd x9 x10)) == 2) x194000 x194001 x194002) else (none)) else (none)) else (spec_l2Field.j2 k x1 x2 x7 x9 x10 (rd x9 x10) false x194000 x194001 x194002))) else (none)) else (some x7)
def spec_l2Field.j2 : Nat → Int → Bool → List Int → List Int → Int → Int → Bool → Int → Int → List Int → Option (List Int)
 | 0, _, _, _, _, _, _, _, _, _, _ => none
 | k + 1, x1, x2, x7, x9, x10, x11, x53, x194000, x194001, x194002 => if x53 = true then (spec_l2Field.l1 k x1 x2 x7 x9 (wrap64 (x10 + 1)) x194000 x194001 x194002) else ((spec_l1Near.f k x194000 x194001 x194002 x11 false).bind fun t206 => (spec_l2Field.l2 k x1 x2 x7 x9 x10 x11 t206 0 x194000 x194001 x194002))
def spec_l2Field.l2 : Nat → Int → Bool → List Int → List Int → Int → Int → List Int → Int → Int → Int → List Int → Option (List Int)
 | 0, _, _, _, _, _, _, _, _, _, _, _ => none
 | k + 1, x1, x2, x7, x9, x10, x11, x12, x13, x194000, x194001, x194002 => if x13 < (x12.length : Int) then (if 0 ≤ x13 then (if 0 ≤ (rd x12 x13) then (if (rd x12 x13) < (x7.length : Int) then (if (rd x7 (rd x12 x13)) < 0 then (if 0 ≤ x11 then (if x11 < (x7.length : Int) then (if x9.length < 17592186044416 then (spec_l2Field.l2 k x1 x2 (x7.set ((rd x12 x13) : Int).toNat (wrap64 ((rd x7 x11) + 1))) (x9 ++ [rd x12 x13]) x10 x11 x12 (wrap64 (x13 + 1)) x194000 x194001 x194002) else (none)) else (none)) else (none)) else (spec_l2Field.l2 k x1 x2 x7 x9 x10 x11 x12 (wrap64 (x13 + 1)) x194000 x194001 x194002)) else (none)) else (none)) else (none)) else (spec_l2Field.l1 k x1 x2 x7 x9 (wrap64 (x10 + 1)) x194000 x194001 x194002)
end
def spec_l2Field.f (k : Nat) (a0_0 : Int) (a0_1 : Int) (l0_2 : List Int) (a1 : Int) (a2 : Bool) : Option (List Int) := spec_l2Field.l0 k a1 a2 (([] : List Int)) 0 a0_0 a0_1 l0_2
theorem spec_l2Field.mono_l : ∀ k, (∀ y0 y1 y2 y3 y4 y5 y6, LeO (spec_l2Field.l0 k y0 y1 y2 y3 y4 y5 y6) (spec_l2Field.l0 (k + 1) y0 y1 y2 y3 y4 y5 y6)) ∧ (∀ y0 y1 y2 y3 y4 y5 y6 y7, LeO (spec_l2Field.l1 k y0 y1 y2 y3 y4 y5 y6 y7) (spec_l2Field.l1 (k + 1) y0 y1 y2 y3 y4 y5 y6 y7)) ∧ (∀ y0 y1 y2 y3 y4 y5 y6 y7 y8 y9, LeO (spec_l2Field.j2 k y0 y1 y2 y3 y4 y5 y6 y7 y8 y9) (spec_l2Field.j2 (k + 1) y0 y1 y2 y3 y4 y5 y6 y7 y8 y9)) ∧ (∀ y0 y1 y2 y3 y4 y5 y6 y7 y8 y9 y10, LeO (spec_l2Field.l2 k y0 y1 y2 y3 y4 y5 y6 y7 y8 y9 y10) (spec_l2Field.l2 (k + 1) y0 y1 y2 y3 y4 y5 y6 y7 y8 y9 y10))
 | 0 => ⟨fun _ _ _ _ _ _ _ r h => by simp [spec_l2Field.l0] at h, fun _ _ _ _ _ _ _ _ r h => by simp [spec_l2Field.l1] at h, fun _ _ _ _ _ _ _ _ _ _ r h => by simp [spec_l2Field.j2] at h, fun _ _ _ _ _ _ _ _ _ _ _ r h => by simp [spec_l2Field.l2] at h⟩
 | k + 1 => by
  obtain ⟨ih0, ih1, ih2, ih3⟩ := spec_l2Field.mono_l k
  refine ⟨?_, ?_, ?_, ?_⟩
  {
  intro y0 y1 y2 y3 y4 y5 y6
  unfold spec_l2Field.l0
  have j0 := @spec_l1Near.mono
  exact qL
  }
  {
  intro y0 y1 y2 y3 y4 y5 y6 y7
  unfold spec_l2Field.l1
  have j0 := @spec_l1Near.mono
  exact qL
  }
  {
  intro y0 y1 y2 y3 y4 y5 y6 y7 y8 y9
  unfold spec_l2Field.j2
  have j0 := @spec_l1Near.mono
  exact qL
  }
  {
  intro y0 y1 y2 y3 y4 y5 y6 y7 y8 y9 y10
  unfold spec_l2Field.l2
  have j0 := @spec_l1Near.mono
  exact qL
  }
theorem spec_l2Field.mono : ∀ a0 a1 a2 a3 a4 k, LeO (spec_l2Field.f k a0 a1 a2 a3 a4) (spec_l2Field.f (k + 1) a0 a1 a2 a3 a4) := by
 intro a0 a1 a2 a3 a4 k
 obtain ⟨ih0, ih1, ih2, ih3⟩ := spec_l2Field.mono_l k
 unfold spec_l2Field.f
 have j0 := @spec_l1Near.mono
 exact qL
def spec_l2Field.T18 : Bool × List (List Nat × List Nat) := (true, [([], []), ([], []), ([], []), ([1, 2], [1, 2]), ([3], [3]), ([], []), ([], []), ([5, 6], [5, 6]), ([7], [7]), ([8], [8]), ([0, 4, 0, 1, 2, 3, 4, 5, 6, 7, 8, 9], [0, 4]), ([10, 9, 0, 1, 2, 3, 4, 5, 6, 7, 8, 9], [9, 10])])
def spec_l2Field.B18 : List Nat := [0, 0, 0, 6, 14, 0, 0, 96, 224, 480, 1023, 2047]
theorem spec_l2Field.tab18 : rtab .any (opsOf Try.f101 18) = spec_l2Field.T18 := by kernel_rfl
theorem spec_l2Field.bits18 : waitsOk spec_l2Field.T18.2 spec_l2Field.B18 = true := by kernel_rfl
theorem spec_l2Field.calls (k : Nat) (a0_0 : Int) (a0_1 : Int) (A0_2 : Option Addr) (c0_2 : Nat) (l0_2 : List Int) (a1 : Int) (a2 : Bool) (r : List Int) (w : World) (hr0_2 : Kd.C (Kd.int .i64) w A0_2 l0_2.length l0_2) (hc0_2 : l0_2.length ≤ c0_2) (h : spec_l2Field.f k a0_0 a0_1 l0_2 a1 a2 = some r) :
  Calls Try.prog 101 #[.agg #[.int .i64 a0_0, .int .i64 a0_1, .slice A0_2 l0_2.length c0_2], .int .i64 a1, .bool a2] w fun e w' => ∃ v0_ : Value, e = .returned (v0_) ∧ Kd.R (Kd.int .i64) 3 w' w.heap.size (fun _ => True) v0_ r ∧ Below w.heap.size w w' := by
 have hu43 := Try.underlying43
 have HR0_2 := aM hr0_2
 have HC0_2 := aM hc0_2
 clear hr0_2 hc0_2
 have HB := aM (Below.refl w.heap.size w)
 unfold spec_l2Field.f at h
 have H := h
 clear h
 obtain ⟨y194, hy194⟩ : ∃ y_ : List Int, y_ = (([] : List Int)) := ⟨_, rfl⟩
 replace H : (spec_l2Field.l0 k a1 a2 y194 0 a0_0 a0_1 l0_2) = some r := by first | (rw [hy194]; exact H) | exact H
 have Ny194 := aM hy194
 clear hy194
 have H' := aM H
 clear H
 go_enter Try.func101, Try.ntmps101
 go_wp2_with (first | ((with_reducible refine gate_dst (N := 3) rfl ?_); refine bx_ 3 #[.int .i64 a0_0, .int .i64 a0_1, .slice A0_2 l0_2.length c0_2] 43 ?_; intro gb193 hg w4 hbox hb; have BK193 := aM (hbox); have GW193 := aM (bz_ w hg qz1); have GE193 := GW193; replace HB := bS_ hb; clear hb hbox hg) | ((with_reducible refine gate_dst (N := 14) rfl ?_); refine Kd.R_lit (Kd.int .i64) _ 3 ?hg (N := 14) ?hd (xs := ([] : List Int)) (inner := []) (ok := fun _ => True) (okp := fun _ => True) ?hr ?hp (fun _ hk => hk) trivial (Below.refl _ _) (Nat.le_refl _) (by simp) ?_; (case hd => rfl); (case hg => rfl); (case hr => exact qz9); (case hp => exact (Reps.none _ _)); intro v195 w5 ho6 hb hg_ hnew_; clear hg_ hnew_; (first | rw [← Ny194.out] at ho6 | (simp only [Int.reduceToNat] at ho6; rw [← Ny194.out] at ho6)); have HO196 := aM (Kd.R_lower ho6 (below_size qz1)); replace BK193 := bB_ BK193 hb; replace HB := bS_ hb; clear hb ho6))
 go_loopg [7, 8] k (fun kq v7 v8 w' => ∃ (x7_1 : List Int) (x8_1 : Int), v8 = .int .i64 x8_1 ∧ Aside0 (spec_l2Field.l0 kq a1 a2 x7_1 x8_1 a0_0 a0_1 l0_2 = some r) ∧ Aside0 (kq ≤ k) ∧ Aside0 (Kd.R (Kd.int .i64) 3 w' w.heap.size (fun _ => True) v7 x7_1) ∧ Aside0 (w'.heap[gb193]? = some (.cells #[.int .i64 a0_0, .int .i64 a0_1, (.slice A0_2 l0_2.length c0_2)] 43 (0, 0))) ∧ Aside0 (Below w.heap.size w w'))
 case atStart => exact ⟨(y194), (0), qz7, H', ⟨Nat.le_refl _⟩, ⟨rr_ HO196.out⟩, ⟨bk_ BK193.out⟩, ⟨qz1⟩⟩
 case round =>
 clear H'
 obtain ⟨x7_1, x8_1, rfl, HA, HK1, HO_7, BK193, HB⟩ := hrel
 cases gk with
 | zero => exact absurd HA.out (by simp [spec_l2Field.l0])
 | succ k1 =>
 have H := HA.out
 clear HA
 simp only [spec_l2Field.l0] at H
 replace H := iE_ H
 rcases H with ⟨c7b0, H⟩ | ⟨c7b0, H⟩
 {
 replace H := iN_ H
 obtain ⟨c8, H⟩ := H
 have LMc8 := aM c8
 clear c8
 obtain ⟨y197, hy197⟩ : ∃ y_ : List Int, y_ = (x7_1 ++ [(-1)]) := ⟨_, rfl⟩
 replace H : (spec_l2Field.l0 k1 a1 a2 y197 (wrap64 (x8_1 + 1)) a0_0 a0_1 l0_2) = some r := by first | (rw [hy197]; exact H) | exact H
 have Ny197 := aM hy197
 clear hy197
 have H' := aM H
 clear H
 obtain ⟨hcz9_0, hcz9_1, hcz9_2, hfz9_0, hfz9_1, hfz9_2⟩ := b6_ BK193.out
 go_wp2_with (first | ((with_reducible refine gate_builtin (b := .append) (xs := #[.tmp 22, .tmp 23]) rfl ?_); at_builtin; refine Kd.R_append (Kd.int .i64) (w0 := w) w.heap.size rfl (.tmp 22) (.tmp 23) 24 3 (.int .i64 0) 8 rfl Try.underlying24 info3 rfl (by decide) (by omega) u7 x7_1 (-1) [.int .i64 (-1)] (fun _ => True) (fun _ => False) rfl rfl ?aP (fun _ hk => hk.elim) ?aF ?aO ?aB ?aS ?aL ?_; (case aP => exact rfl); (case aB => exact qz1); (case aF => exact qz21); (case aO => exact (rr_ HO_7.out)); (case aS => exact qz32); (case aL => have := LMc8.out; omega); intro v198 w10 ho hb hg hat; rw [← Ny197.out] at ho; replace BK193 := aM (blk_grown (bk_ BK193.out) hg (Kd.R_ne HO_7.out BK193.out (by decide))); replace HB := aM (hb); have HO199 := aM (ho); clear HO_7; clear ho hb hg hat))
 go_roundg k1
 case measure => have := HK1.out; omega
 case rel => exact ⟨(y197), (wrap64 (x8_1 + 1)), qz7, H', ⟨by have := HK1.out; omega⟩, ⟨rm_ HO199.out⟩, ⟨bk_ BK193.out⟩, ⟨qz1⟩⟩
 }
 {
 replace H := iD_ H
 obtain ⟨c11b0, H⟩ := H
 replace H := iD_ H
 obtain ⟨c12b0, H⟩ := H
 obtain ⟨y200, hy200⟩ : ∃ y_ : List Int, y_ = (x7_1.set (a1 : Int).toNat 0) := ⟨_, rfl⟩
 replace H : (spec_l2Field.l1 k1 a1 a2 y200 (([a1] : List Int)) 0 a0_0 a0_1 l0_2) = some r := by first | (rw [hy200]; exact H) | exact H
 have Ny200 := aM hy200
 clear hy200
 obtain ⟨y201, hy201⟩ : ∃ y_ : List Int, y_ = (([a1] : List Int)) := ⟨_, rfl⟩
 replace H : (spec_l2Field.l1 k1 a1 a2 y200 y201 0 a0_0 a0_1 l0_2) = some r := by first | (rw [hy201]; exact H) | exact H
 have Ny201 := aM hy201
 clear hy201
 have H' := aM H
 clear H
 obtain ⟨hcz14_0, hcz14_1, hcz14_2, hfz14_0, hfz14_1, hfz14_2⟩ := b6_ BK193.out
 have p13 : 0 ≤ (a1 : Int) := dt_
 have q13 : (a1 : Int) < ((x7_1.length : Int) : Int) := dt_
 obtain ⟨go13, co13, eo13, gb13, gl13, cl13, HG13⟩ := Kd.R_form HO_7.out (by omega)
 (first | cases eo13 | (injection eo13 with ea_ en_ ec_; (first | subst ea_ | (injection ea_ with ea_; subst ea_)); subst ec_; clear en_))
 have GB13 := aM gb13
 have GG13 := aM HG13
 clear gb13 gl13 HG13
 obtain ⟨hx13_0, hf13_0⟩ := Kd.R_celln 0 HO_7.out (a1 : Int) p13 q13
 replace p13 := eq_true p13
 replace q13 := eq_true q13
 obtain ⟨hy15_, hz15_⟩ := Kd.R_celln 0 HO_7.out (a1 : Int) (dt_) (dt_)
 have HP15 := Kd.R_putg HO_7.out (a1 : Int) 0
 go_wp2_with (first | ((with_reducible refine gate_store (t := 3) (p := 27) rfl ?_); refine store_event (t := 3) (p := 27) (v := ?vo_w16) (w1 := (wr.setCell ⟨go13, (a1 : Int).toNat, none⟩ (.int .i64 0))) ?hg ?ho ?hn ?hr ?_; (case ho => rfl); (case hg => rfl); (case hn => rfl); (case hr => exact qz9); intro w16 hw; have hg : wr.grownBy w16 (some go13) := (by rw [hw]; exact HP15.2); have hp_ : Kd.R (Kd.int .i64) 3 w16 w.heap.size (fun _ => True) (.slice (some ⟨go13, 0, none⟩) x7_1.length co13) y200 := (by rw [hw, Ny200.out]; exact HP15.1); clear HP15; replace BK193 := aM (blk_grown (bk_ BK193.out) hg (Kd.R_ne HO_7.out BK193.out (by decide))); replace HO_7 := aM (hp_); replace HB := aM ((by rw [hw]; exact below_set (HB.out) GB13.out : Below w.heap.size w w16)); clear hg hw hp_) | ((with_reducible refine gate_dst (N := 29) rfl ?_); refine Kd.R_lit (Kd.int .i64) _ 3 ?hg (N := 29) ?hd (xs := ([a1] : List Int)) (inner := [.int .i64 a1]) (ok := fun _ => True) (okp := fun _ => True) ?hr ?hp (fun _ hk => hk) trivial (Below.refl _ _) (Nat.le_refl _) (by simp) ?_; (case hd => rfl); (case hg => rfl); (case hr => exact qz9); (case hp => exact (Reps.one (show Kd.M (Kd.int .i64) _ _ _ a1 [.int .i64 a1] from rfl) (Reps.none _ _))); intro v202 w17 ho18 hb hg_ hnew_; clear hg_ hnew_; (first | rw [← Ny201.out] at ho18 | (simp only [Int.reduceToNat] at ho18; rw [← Ny201.out] at ho18)); have HO203 := aM (Kd.R_lower (Kd.R_new' ho18 (Kd.R_lt (rr_ HO_7.out))) (below_size qz1)); replace HO_7 := aM (Kd.R_elder' (rr_ HO_7.out) (Kd.R_base ho18) hb); replace BK193 := bB_ BK193 hb; replace HB := bS_ hb; clear hb ho18))
 go_loopg [9, 10] k1 (fun kq v9 v10 w' => ∃ (x7_2 : List Int) (x9_2 : List Int) (x10_2 : Int), v10 = .int .i64 x10_2 ∧ Aside0 (spec_l2Field.l1 kq a1 a2 x7_2 x9_2 x10_2 a0_0 a0_1 l0_2 = some r) ∧ Aside0 (kq ≤ k1) ∧ Aside0 (Kd.R (Kd.int .i64) 3 w' w.heap.size (fun k_ => some k_ ≠ (v9 : Value).ownBlock) (.slice (some ⟨go13, 0, none⟩) x7_1.length co13) x7_2) ∧ Aside0 (Kd.R (Kd.int .i64) 3 w' w.heap.size (fun k_ => some k_ ≠ ((.slice (some ⟨go13, 0, none⟩) x7_1.length co13) : Value).ownBlock) v9 x9_2) ∧ Aside0 (w'.heap[gb193]? = some (.cells #[.int .i64 a0_0, .int .i64 a0_1, (.slice A0_2 l0_2.length c0_2)] 43 (0, 0))) ∧ Aside0 (Below w.heap.size w w'))
 case atStart => exact ⟨(y200), (y201), (0), qz7, H', ⟨Nat.le_refl _⟩, ⟨by (with_reducible repeat (first | apply Kd.R_alloc | apply Kd.R_drewN | apply Kd.R_drew)); exact Kd.R_mono HO_7.out (fun _ hk => hk.2)⟩, ⟨by (with_reducible repeat (first | apply Kd.R_alloc | apply Kd.R_drewN | apply Kd.R_drew)); exact Kd.R_mono HO203.out (fun _ hk => hk.2)⟩, ⟨bk_ BK193.out⟩, ⟨qz1⟩⟩
 case round =>
 clear H'
 try clear c7
 try clear c7b0
 try clear c11
 try clear c11b0
 try clear c12
 try clear c12b0
 try clear p13
 try clear q13
 try clear hf13
 try clear hcz14_0 hcz14_1 hcz14_2 hfz14_0 hfz14_1 hfz14_2
 try clear hx13_0
 obtain ⟨x7_2, x9_2, x10_2, rfl, HA, HK2, HO_7, HO_9, BK193, HB⟩ := hrel
 have hl7_2 := (Kd.R_reads' HO_7.out).1
 rw [hl7_2] at HO_7
 (try simp only [hl7_2])
 (try simp only [hl7_2] at BK193)
 (try simp only [hl7_2] at HO_9)
 cases gk with
 | zero => exact absurd HA.out (by simp [spec_l2Field.l1])
 | succ k2 =>
 have H := HA.out
 clear HA
 simp only [spec_l2Field.l1] at H
 replace H := iS_ H
 rcases H with ⟨c19, H⟩ | ⟨c19, H⟩
 {
 have c19b0 := decide_eq_true c19
 (try (have c19b0q7_2 := c19b0; simp only [hl7_2] at c19b0q7_2))
 clear c19
 replace H := iD_ H
 obtain ⟨c20b0, H⟩ := H
 have HC21 := aM H
 clear H
 obtain ⟨Ao22, co22, eo22⟩ := Kd.R_slice HO_9.out
 subst eo22
 have p204 : (0 ≤ (x10_2 : Int)) = True := et_
 have q204 : (x10_2 < (x9_2.length : Int)) = True := et_
 obtain ⟨ad204, e204, hx204_0⟩ := Kd.at_int (Kd.R_reads' HO_9.out).2.2 x10_2 dt_ dt_
 cases e204
 go_upto_region 12 with (fail)
 go_cut [53] (fun v53 wc => ∃ (kq : Nat) (x53_20 : Bool), v53 = .bool x53_20 ∧ Aside0 (spec_l2Field.j2 kq a1 a2 x7_2 x9_2 x10_2 (rd x9_2 x10_2) x53_20 a0_0 a0_1 l0_2 = some r) ∧ Aside0 (kq ≤ k2) ∧ Aside0 (Kd.R (Kd.int .i64) 3 wc w.heap.size (fun k_ => some k_ ≠ ((.slice (some ad204) x9_2.length co22) : Value).ownBlock) (.slice (some ⟨go13, 0, none⟩) x7_2.length co13) x7_2) ∧ Aside0 (Kd.R (Kd.int .i64) 3 wc w.heap.size (fun k_ => some k_ ≠ ((.slice (some ⟨go13, 0, none⟩) x7_2.length co13) : Value).ownBlock) (.slice (some ad204) x9_2.length co22) x9_2) ∧ Aside0 (wc.heap[gb193]? = some (.cells #[.int .i64 a0_0, .int .i64 a0_1, (.slice A0_2 l0_2.length c0_2)] 43 (0, 0))) ∧ Aside0 (Below w.heap.size w wc))
 case first =>
  have H := HC21.out
  clear HC21
  replace H := iQ_ H
  rcases H with ⟨c23b0, c23b1, H⟩ | ⟨c23, c23b0, c23b1, H⟩
  {
  (first | rw [c23b0] | (simp only [i64_w, i32_w]; rw [c23b0]) | rw [@decide_eq_true _ _ (of_decide_eq_true c23b0)] | rw [@decide_eq_true _ _ (of_decide_eq_true c23b1)] | skip)
  have H' := aM H
  clear H
  go_wp2
  go_meet
  case rel => exact ⟨_, (false), qz7, H', ⟨by have := HK1.out; have := HK2.out; first | omega | exact Nat.le_refl _⟩, ⟨by (try simp only [hl7_2]); exact rm_ HO_7.out⟩, ⟨by (try simp only [hl7_2]); exact rm_ HO_9.out⟩, ⟨by (try simp only [hl7_2]); exact bk_ BK193.out⟩, ⟨qz1⟩⟩
  }
  {
  (first | rw [c23b0] | (simp only [i64_w, i32_w]; rw [c23b0]) | rw [@decide_eq_false _ _ (of_decide_eq_false c23b0)] | rw [@decide_eq_false _ _ (of_decide_eq_false c23b1)] | skip)
  replace H := iB_ H
  rcases H with ⟨rfl, H⟩ | ⟨rfl, H⟩
  {
  replace H := iD_ H
  obtain ⟨c25b0, H⟩ := H
  replace H := iN_ H
  obtain ⟨c26, H⟩ := H
  have c26b0 := decide_eq_true c26
  (try (have c26b0q7_2 := c26b0; simp only [hl7_2] at c26b0q7_2))
  clear c26
  have H' := aM H
  clear H
  obtain ⟨hcz27_0, hcz27_1, hcz27_2, hfz27_0, hfz27_1, hfz27_2⟩ := b6_ BK193.out
  have p205 : (0 ≤ ((rd x9_2 x10_2) : Int)) = True := et_
  have q205 : ((rd x9_2 x10_2) < (l0_2.length : Int)) = True := et_
  obtain ⟨ad205, e205, hx205_0⟩ := tC1_ (Kd.at_int HR0_2.out (rd x9_2 x10_2) dt_ dt_)
  cases e205
  go_wp2
  go_meet
  case rel => exact ⟨_, (((rd l0_2 (rd x9_2 x10_2)) == 2)), qz7, H', ⟨by have := HK1.out; have := HK2.out; first | omega | exact Nat.le_refl _⟩, ⟨by (try simp only [hl7_2]); exact rm_ HO_7.out⟩, ⟨by (try simp only [hl7_2]); exact rm_ HO_9.out⟩, ⟨by (try simp only [hl7_2]); exact bk_ BK193.out⟩, ⟨qz1⟩⟩
  }
  {
  have H' := aM H
  clear H
  go_wp2
  go_meet
  case rel => exact ⟨_, (false), qz7, H', ⟨by have := HK1.out; have := HK2.out; first | omega | exact Nat.le_refl _⟩, ⟨by (try simp only [hl7_2]); exact rm_ HO_7.out⟩, ⟨by (try simp only [hl7_2]); exact rm_ HO_9.out⟩, ⟨by (try simp only [hl7_2]); exact bk_ BK193.out⟩, ⟨qz1⟩⟩
  }
  }
 case rest =>
 clear HC21
 try clear c7
 try clear c7b0
 try clear c11
 try clear c11b0
 try clear c12
 try clear c12b0
 try clear p13
 try clear q13
 try clear hf13
 try clear c19
 try clear c19b0
 try clear c20
 try clear c20b0
 try clear hcz14_0 hcz14_1 hcz14_2 hfz14_0 hfz14_1 hfz14_2
 try clear hx13_0
 try clear hx204_0
 try clear p204
 try clear q204
 obtain ⟨kq, x53_20, rfl, HA, HJ20, HO_7, HO_9, BK193, HB⟩ := hcut
 cases kq with
 | zero => exact absurd HA.out (by simp [spec_l2Field.j2])
 | succ kj20 =>
 have H := HA.out
 clear HA
 simp only [spec_l2Field.j2] at H
 replace H := iB_ H
 rcases H with ⟨rfl, H⟩ | ⟨rfl, H⟩
 {
 have H' := aM H
 clear H
 go_wp2
 (try simp only [← hl7_2])
 go_roundg kj20
 case measure => have := HK1.out; have := HK2.out; have := HJ20.out; omega
 case rel => exact ⟨(x7_2), (x9_2), (wrap64 (x10_2 + 1)), qz7, H', ⟨by have := HK1.out; have := HK2.out; have := HJ20.out; omega⟩, ⟨by (try simp only [hl7_2]); exact rm_ HO_7.out⟩, ⟨by (try simp only [hl7_2]); exact rm_ HO_9.out⟩, ⟨by (try simp only [hl7_2]); exact bk_ BK193.out⟩, ⟨qz1⟩⟩
 }
 {
 replace H := Option.bind_eq_some_iff.mp H
 obtain ⟨t206, A290, H⟩ := H
 have A29 := aM A290
 clear A290
 have H' := aM H
 clear H
 obtain ⟨hcz30_0, hcz30_1, hcz30_2, hfz30_0, hfz30_1, hfz30_2⟩ := b6_ BK193.out
 go_wp2_with (first | ((with_reducible refine gate_callee (f := 99) rfl ?_); refine goesL_ (some 56) rfl rfl Try.func99 (by kernel_rfl) rfl #[.agg #[.int .i64 a0_0, .int .i64 a0_1, .slice A0_2 l0_2.length c0_2], .int .i64 (rd x9_2 x10_2), .bool false] rfl qz2 ?_; (with_reducible refine (spec_l1Near.calls kj20 a0_0 a0_1 _ _ l0_2 (rd x9_2 x10_2) false t206 _ ?_ ?_ A29.out).mono ?_); exact qz6; exact qz28; rintro e w31 ⟨v207, rfl, ho0, hb⟩; refine ⟨_, rfl, ?_⟩; have HO208 := aM (Kd.R_lower (Kd.R_new' (Kd.R_new' ho0 (Kd.R_lt (rr_ HO_7.out))) (Kd.R_lt (rr_ HO_9.out))) (below_size qz1)); replace HO_7 := aM (Kd.R_elder' (rr_ HO_7.out) (Kd.R_base ho0) hb); replace HO_9 := aM (Kd.R_elder' (rr_ HO_9.out) (Kd.R_base ho0) hb); replace BK193 := bB_ BK193 hb; replace HB := bS_ hb; (try clear hb ho0)))
 go_loopg [9, 13] kj20 (fun kq v9 v13 w' => ∃ (x7_4 : List Int) (x9_4 : List Int) (x13_4 : Int), v13 = .int .i64 x13_4 ∧ Aside0 (spec_l2Field.l2 kq a1 a2 x7_4 x9_4 x10_2 (rd x9_2 x10_2) t206 x13_4 a0_0 a0_1 l0_2 = some r) ∧ Aside0 (kq ≤ kj20) ∧ Aside0 (Kd.R (Kd.int .i64) 3 w' w.heap.size (fun k_ => some k_ ≠ (v9 : Value).ownBlock ∧ some k_ ≠ (v207 : Value).ownBlock) (.slice (some ⟨go13, 0, none⟩) x7_2.length co13) x7_4) ∧ Aside0 (Kd.R (Kd.int .i64) 3 w' w.heap.size (fun k_ => some k_ ≠ ((.slice (some ⟨go13, 0, none⟩) x7_2.length co13) : Value).ownBlock ∧ some k_ ≠ (v207 : Value).ownBlock) v9 x9_4) ∧ Aside0 (Kd.R (Kd.int .i64) 3 w' w.heap.size (fun k_ => some k_ ≠ ((.slice (some ⟨go13, 0, none⟩) x7_2.length co13) : Value).ownBlock ∧ some k_ ≠ (v9 : Value).ownBlock) v207 t206) ∧ Aside0 (w'.heap[gb193]? = some (.cells #[.int .i64 a0_0, .int .i64 a0_1, (.slice A0_2 l0_2.length c0_2)] 43 (0, 0))) ∧ Aside0 (Below w.heap.size w w'))
 case atStart => exact ⟨(x7_2), (x9_2), (0), qz7, H', ⟨Nat.le_refl _⟩, ⟨by (try simp only [hl7_2]); exact rr_ HO_7.out⟩, ⟨by (try simp only [hl7_2]); exact rr_ HO_9.out⟩, ⟨by (try simp only [hl7_2]); (with_reducible repeat (first | apply Kd.R_alloc | apply Kd.R_drewN | apply Kd.R_drew)); exact Kd.R_mono HO208.out (fun _ hk => ⟨hk.1.2, hk.2⟩)⟩, ⟨by (try simp only [hl7_2]); exact bk_ BK193.out⟩, ⟨qz1⟩⟩
 case round =>
 clear H'
 try clear c7
 try clear c7b0
 try clear c11
 try clear c11b0
 try clear c12
 try clear c12b0
 try clear p13
 try clear q13
 try clear hf13
 try clear c19
 try clear c19b0
 try clear c20
 try clear c20b0
 try clear c28
 try clear hcz14_0 hcz14_1 hcz14_2 hfz14_0 hfz14_1 hfz14_2
 try clear hcz30_0 hcz30_1 hcz30_2 hfz30_0 hfz30_1 hfz30_2
 try clear hx13_0
 try clear hx204_0
 try clear p204
 try clear q204
 obtain ⟨x7_4, x9_4, x13_4, rfl, HA, HK4, HO_7, HO_9, HO_12, BK193, HB⟩ := hrel
 have hl7_4 := (Kd.R_reads' HO_7.out).1
 rw [hl7_4] at HO_7
 (try simp only [hl7_4])
 (try simp only [hl7_4] at BK193)
 (try simp only [hl7_4] at HO_9)
 (try simp only [hl7_4] at HO_12)
 cases gk with
 | zero => exact absurd HA.out (by simp [spec_l2Field.l2])
 | succ k4 =>
 have H := HA.out
 clear HA
 simp only [spec_l2Field.l2] at H
 replace H := iS_ H
 rcases H with ⟨c32, H⟩ | ⟨c32, H⟩
 {
 have c32b0 := decide_eq_true c32
 (try (have c32b0q7_2 := c32b0; simp only [hl7_2] at c32b0q7_2))
 (try (have c32b0q7_4 := c32b0; simp only [hl7_4] at c32b0q7_4))
 clear c32
 replace H := iD_ H
 obtain ⟨c33b0, H⟩ := H
 replace H := iD_ H
 obtain ⟨c34b0, H⟩ := H
 replace H := iN_ H
 obtain ⟨c35, H⟩ := H
 have c35b0 := decide_eq_true c35
 (try (have c35b0q7_2 := c35b0; simp only [hl7_2] at c35b0q7_2))
 (try (have c35b0q7_4 := c35b0; simp only [hl7_4] at c35b0q7_4))
 clear c35
 replace H := iE_ H
 rcases H with ⟨c36b0, H⟩ | ⟨c36b0, H⟩
 {
 replace H := iD_ H
 obtain ⟨c37b0, H⟩ := H
 replace H := iN_ H
 obtain ⟨c38, H⟩ := H
 have c38b0 := decide_eq_true c38
 (try (have c38b0q7_2 := c38b0; simp only [hl7_2] at c38b0q7_2))
 (try (have c38b0q7_4 := c38b0; simp only [hl7_4] at c38b0q7_4))
 clear c38
 obtain ⟨y213, hy213⟩ : ∃ y_ : List Int, y_ = (x7_4.set ((rd t206 x13_4) : Int).toNat (wrap64 ((rd x7_4 (rd x9_2 x10_2)) + 1))) := ⟨_, rfl⟩
 replace H : (if x9_4.length < 17592186044416 then (spec_l2Field.l2 k4 a1 a2 y213 (x9_4 ++ [rd t206 x13_4]) x10_2 (rd x9_2 x10_2) t206 (wrap64 (x13_4 + 1)) a0_0 a0_1 l0_2) else (none)) = some r := by first | (rw [hy213]; exact H) | exact H
 have Ny213 := aM hy213
 clear hy213
 replace H := iN_ H
 obtain ⟨c40, H⟩ := H
 have LMc40 := aM c40
 clear c40
 obtain ⟨y215, hy215⟩ : ∃ y_ : List Int, y_ = (x9_4 ++ [rd t206 x13_4]) := ⟨_, rfl⟩
 replace H : (spec_l2Field.l2 k4 a1 a2 y213 y215 x10_2 (rd x9_2 x10_2) t206 (wrap64 (x13_4 + 1)) a0_0 a0_1 l0_2) = some r := by first | (rw [hy215]; exact H) | exact H
 have Ny215 := aM hy215
 clear hy215
 have H' := aM H
 clear H
 obtain ⟨Ao41, co41, eo41⟩ := Kd.R_slice HO_12.out
 subst eo41
 have p209 : (0 ≤ (x13_4 : Int)) = True := et_
 have q209 : (x13_4 < (t206.length : Int)) = True := et_
 obtain ⟨ad209, e209, hx209_0⟩ := Kd.at_int (Kd.R_reads' HO_12.out).2.2 x13_4 dt_ dt_
 cases e209
 have p210 : (0 ≤ ((rd t206 x13_4) : Int)) = True := et_
 have q210 : ((rd t206 x13_4) < (x7_4.length : Int)) = True := et_
 obtain ⟨ad210, e210, hx210_0⟩ := Kd.at_int (Kd.R_reads' HO_7.out).2.2 (rd t206 x13_4) dt_ dt_
 obtain rfl : (⟨go13, 0, none⟩ : Addr) = ad210 := (by injection e210)
 (first | simp only [add_plain] at hx210_0 | simp only [add_at] at hx210_0 | simp only [Addr.add, Nat.zero_add] at hx210_0 | skip)
 try go_wp2
 replace HO_7 := aM (Kd.R_drew HO_7.out)
 replace HO_9 := aM (Kd.R_drew HO_9.out)
 replace HO_12 := aM (Kd.R_drew HO_12.out)
 replace BK193 := aM (blk_drew BK193.out)
 replace HB := aM (below_drew1 HB.out)
 have p211 : (0 ≤ (x13_4 : Int)) = True := et_
 have q211 : (x13_4 < (t206.length : Int)) = True := et_
 obtain ⟨ad211, e211, hx211_0⟩ := Kd.at_int (Kd.R_reads' HO_12.out).2.2 x13_4 dt_ dt_
 obtain rfl := iJ_ e211
 have p212 : (0 ≤ ((rd x9_2 x10_2) : Int)) = True := et_
 have q212 : ((rd x9_2 x10_2) < (x7_4.length : Int)) = True := et_
 obtain ⟨ad212, e212, hx212_0⟩ := Kd.at_int (Kd.R_reads' HO_7.out).2.2 (rd x9_2 x10_2) dt_ dt_
 obtain rfl : (⟨go13, 0, none⟩ : Addr) = ad212 := (by injection e212)
 (first | simp only [add_plain] at hx212_0 | simp only [add_at] at hx212_0 | simp only [Addr.add, Nat.zero_add] at hx212_0 | skip)
 have p39 : (0 ≤ ((rd t206 x13_4) : Int)) = True := et_
 have q39 : (((rd t206 x13_4) : Int) < ((x7_4.length : Int) : Int)) = True := et_
 obtain ⟨hx39_0, hf39_0⟩ := Kd.R_celln 0 HO_7.out ((rd t206 x13_4) : Int) dt_ dt_
 have HP43 := Kd.R_putn HO_7.out ((rd t206 x13_4) : Int) (wrap64 ((rd x7_4 (rd x9_2 x10_2)) + 1))
 rw [← Ny213.out] at HP43
 have HQ43 := aM HP43
 clear HP43
 refine start_ (n := 12) (S := fun w' => w'.cell? (ad209.add (x13_4).toNat) = some (.int .i64 (rd t206 x13_4)) ∧ w'.cell? ⟨go13, ((rd x9_2 x10_2)).toNat, none⟩ = some (.int .i64 (rd x7_4 (rd x9_2 x10_2)))) (ds := [11]) #[false, false, false, false, false, false, false, false, false, false, false, false] (by kernel_rfl) rfl rfl ⟨hx211_0, hx212_0⟩ (fun hHeld => ?_); refine with_tabW spec_l2Field.tab18 spec_l2Field.bits18 (fun HT_ HW_ => ?_)
 generalize wr.drew = w42 at HO_7 HO_9 HO_12 BK193 HB HQ43 hf39_0 hx211_0 hx212_0 hx39_0 hHeld ⊢
 refine pI_ 0 (bqz 12 1) ?_
 refine jI_ 1 ?_
 refine jI_ 2 ?_
 refine jI_ 3 ?_
 refine jI_ 5 ?_
 refine jI_ 6 ?_
 refine jI_ 7 ?_
 refine sI2_ 4 ?_
 refine sI2_ 8 ?_
 refine jI_ 9 ?_
 refine jI_ 10 ?_
 refine last_ (i := 11) (N := none) (bqz 12 4095) rfl rfl qzc (by decide) (fun K hK => ?_)
 refine sk_ ?_
 refine hK.out _ _ ?_
 clear hK K
 refine dN_ ?_
 have p214 : (0 ≤ (x13_4 : Int)) = True := et_
 have q214 : (x13_4 < (t206.length : Int)) = True := et_
 obtain ⟨ad214, e214, hx214_0⟩ := Kd.at_int (Kd.R_reads' HO_12.out).2.2 x13_4 dt_ dt_
 obtain rfl := iJ_ e214
 have hn214_0 : ad209.block ≠ go13 := (fun e_ => (HO_7.out.1 _ rfl).2 (by rw [← e_]; rfl))
 replace hx214_0 := (cell_far (p := ⟨go13, ((rd t206 x13_4) : Int).toNat, none⟩) (by first | (rw [add_block]; exact hn214_0) | (show (Addr.add _ _).block ≠ _; rw [add_block]; exact hn214_0) | exact hn214_0) (.int .i64 (wrap64 ((rd x7_4 (rd x9_2 x10_2)) + 1)))).trans hx214_0
 clear hn214_0
 try go_wp2_with (first | ((with_reducible refine gate_builtin (b := .append) (xs := #[.tmp 82, .tmp 87]) rfl ?_); at_builtin; refine Kd.R_append (Kd.int .i64) (w0 := w) w.heap.size rfl (.tmp 82) (.tmp 87) 24 3 (.int .i64 0) 8 rfl Try.underlying24 info3 rfl (by decide) (by omega) u9 x9_4 (rd t206 x13_4) [.int .i64 (rd t206 x13_4)] (fun k_ => some k_ ≠ (.slice (some ⟨go13, 0, none⟩) x7_4.length co13 : Value).ownBlock ∧ some k_ ≠ (.slice (some ad209) t206.length co41 : Value).ownBlock) (fun _ => False) rfl qz9 ?aP (fun _ hk => hk.elim) ?aF ?aO ?aB ?aS ?aL ?_; (case aP => exact rfl); (case aB => exact qz1); (case aF => exact (fun k_ hk => ⟨Kd.fresh' (Kd.R_lt (rr_ HQ43.out)) k_ hk, Kd.fresh' (Kd.R_lt (by (with_reducible repeat (first | apply Kd.R_alloc | apply Kd.R_drewN | apply Kd.R_drew)); exact (Kd.R_mono (Kd.R_far (p := ⟨go13, ((rd t206 x13_4) : Int).toNat, none⟩) (Kd.R_mono HO_12.out (fun k_ hk => (⟨hk, fun e_ => hk.1 (by rw [e_]; rfl)⟩ : _ ∧ k_ ≠ go13))) (fun _ hk => hk.2) (.int .i64 (wrap64 ((rd x7_4 (rd x9_2 x10_2)) + 1)))) (fun _ h_ => h_.1)))) k_ hk⟩)); (case aO => exact (by (with_reducible repeat (first | apply Kd.R_alloc | apply Kd.R_drewN | apply Kd.R_drew)); exact Kd.R_mono (Kd.R_far (p := ⟨go13, ((rd t206 x13_4) : Int).toNat, none⟩) (Kd.R_mono HO_9.out (fun k_ hk => (⟨hk, fun e_ => hk.1 (by rw [e_]; rfl)⟩ : _ ∧ k_ ≠ go13))) (fun _ hk => hk.2) (.int .i64 (wrap64 ((rd x7_4 (rd x9_2 x10_2)) + 1)))) (fun _ hk => ⟨hk.1.1, hk.1.2⟩))); (case aS => exact qz32); (case aL => have := LMc40.out; omega); intro v216 w44 ho hb hg hat; rw [← Ny215.out] at ho; replace HO_12 := aM (Kd.R_after (ok := (fun k_ => some k_ ≠ (.slice (some ⟨go13, 0, none⟩) x7_4.length co13 : Value).ownBlock)) (by (with_reducible repeat (first | apply Kd.R_alloc | apply Kd.R_drewN | apply Kd.R_drew)); exact Kd.R_mono (Kd.R_far (p := ⟨go13, ((rd t206 x13_4) : Int).toNat, none⟩) (Kd.R_mono HO_12.out (fun k_ hk => (⟨hk, fun e_ => hk.1 (by rw [e_]; rfl)⟩ : _ ∧ k_ ≠ go13))) (fun _ hk => hk.2) (.int .i64 (wrap64 ((rd x7_4 (rd x9_2 x10_2)) + 1)))) (fun _ hk => ⟨hk.1.1, hk.1.2⟩)) hg hat); replace BK193 := aM (blk_grown (g := gb193) (o := .cells #[.int .i64 a0_0, .int .i64 a0_1, .slice A0_2 l0_2.length c0_2] 43 (0, 0)) (by (with_reducible repeat (first | refine blk_drewN ?_ _ | refine blk_drew ?_ | refine blk_alloc ?_ _)); refine blk_far ?_ (by have h_ := Kd.R_ne HO_7.out BK193.out (by decide); intro e_; exact h_ (by rw [e_]; rfl)) _; exact bk_ BK193.out) hg (Kd.R_ne HO_9.out BK193.out (by decide))); replace HO_7 := aM (Kd.R_after (ok := (fun k_ => some k_ ≠ (.slice (some ad209) t206.length co41 : Value).ownBlock)) (by (with_reducible repeat (first | apply Kd.R_alloc | apply Kd.R_drewN | apply Kd.R_drew)); exact Kd.R_mono HQ43.out (fun _ hk => ⟨hk.2, hk.1⟩)) hg hat); replace HB := aM (hb); have HO217 := aM (ho); clear HO_9; clear ho hb hg hat))
 (try simp only [← hl7_4])
 go_roundg k4
 case measure => have := HK1.out; have := HK2.out; have := HJ20.out; have := HK4.out; omega
 case rel => exact ⟨(y213), (y215), (wrap64 (x13_4 + 1)), qz7, H', ⟨by have := HK1.out; have := HK2.out; have := HJ20.out; have := HK4.out; omega⟩, ⟨by (try simp only [hl7_2]); (try simp only [hl7_4]); (with_reducible repeat (first | apply Kd.R_alloc | apply Kd.R_drewN | apply Kd.R_drew)); exact Kd.R_mono HO_7.out (fun _ hk => ⟨hk.2, hk.1⟩)⟩, ⟨by (try simp only [hl7_2]); (try simp only [hl7_4]); exact rm_ HO217.out⟩, ⟨by (try simp only [hl7_2]); (try simp only [hl7_4]); exact rm_ HO_12.out⟩, ⟨by (try simp only [hl7_2]); (try simp only [hl7_4]); exact bk_ BK193.out⟩, ⟨qz1⟩⟩
 }
 {
 have H' := aM H
 clear H
 obtain ⟨Ao45, co45, eo45⟩ := Kd.R_slice HO_12.out
 subst eo45
 have p209 : (0 ≤ (x13_4 : Int)) = True := et_
 have q209 : (x13_4 < (t206.length : Int)) = True := et_
 obtain ⟨ad209, e209, hx209_0⟩ := Kd.at_int (Kd.R_reads' HO_12.out).2.2 x13_4 dt_ dt_
 cases e209
 have p210 : (0 ≤ ((rd t206 x13_4) : Int)) = True := et_
 have q210 : ((rd t206 x13_4) < (x7_4.length : Int)) = True := et_
 obtain ⟨ad210, e210, hx210_0⟩ := Kd.at_int (Kd.R_reads' HO_7.out).2.2 (rd t206 x13_4) dt_ dt_
 obtain rfl : (⟨go13, 0, none⟩ : Addr) = ad210 := (by injection e210)
 (first | simp only [add_plain] at hx210_0 | simp only [add_at] at hx210_0 | simp only [Addr.add, Nat.zero_add] at hx210_0 | skip)
 go_wp2
 (try simp only [← hl7_4])
 go_roundg k4
 case measure => have := HK1.out; have := HK2.out; have := HJ20.out; have := HK4.out; omega
 case rel => exact ⟨(x7_4), (x9_4), (wrap64 (x13_4 + 1)), qz7, H', ⟨by have := HK1.out; have := HK2.out; have := HJ20.out; have := HK4.out; omega⟩, ⟨by (try simp only [hl7_2]); (try simp only [hl7_4]); exact rm_ HO_7.out⟩, ⟨by (try simp only [hl7_2]); (try simp only [hl7_4]); exact rm_ HO_9.out⟩, ⟨by (try simp only [hl7_2]); (try simp only [hl7_4]); exact rm_ HO_12.out⟩, ⟨by (try simp only [hl7_2]); (try simp only [hl7_4]); exact bk_ BK193.out⟩, ⟨qz1⟩⟩
 }
 }
 {
 have c32b0 := decide_eq_false c32
 (try (have c32b0q7_2 := c32b0; simp only [hl7_2] at c32b0q7_2))
 (try (have c32b0q7_4 := c32b0; simp only [hl7_4] at c32b0q7_4))
 clear c32
 have H' := aM H
 clear H
 obtain ⟨Ao46, co46, eo46⟩ := Kd.R_slice HO_12.out
 subst eo46
 go_wp2
 (try simp only [← hl7_2, ← hl7_4])
 go_roundg k4
 case measure => have := HK1.out; have := HK2.out; have := HJ20.out; have := HK4.out; omega
 case rel => exact ⟨(x7_4), (x9_4), (wrap64 (x10_2 + 1)), qz7, H', ⟨by have := HK1.out; have := HK2.out; have := HJ20.out; have := HK4.out; omega⟩, ⟨by (try simp only [hl7_2]); (try simp only [hl7_4]); (with_reducible repeat (first | apply Kd.R_alloc | apply Kd.R_drewN | apply Kd.R_drew)); exact Kd.R_mono HO_7.out (fun _ hk => hk.1)⟩, ⟨by (try simp only [hl7_2]); (try simp only [hl7_4]); (with_reducible repeat (first | apply Kd.R_alloc | apply Kd.R_drewN | apply Kd.R_drew)); exact Kd.R_mono HO_9.out (fun _ hk => hk.1)⟩, ⟨by (try simp only [hl7_2]); (try simp only [hl7_4]); exact bk_ BK193.out⟩, ⟨qz1⟩⟩
 }
 }
 }
 {
 have c19b0 := decide_eq_false c19
 (try (have c19b0q7_2 := c19b0; simp only [hl7_2] at c19b0q7_2))
 clear c19
 obtain rfl := Option.some.inj H
 obtain ⟨Ao47, co47, eo47⟩ := Kd.R_slice HO_9.out
 subst eo47
 go_wp2
 go_ret
 exact ⟨_, qzw, by (with_reducible repeat (first | apply Kd.R_alloc | apply Kd.R_drewN | apply Kd.R_drew)); exact Kd.R_mono HO_7.out (fun _ hk => trivial), qz1⟩
 }
 }
/-! ### spec_l7Field: function 63 -/
def spec_l7Field.f (k : Nat) (a0_0 : Int) (a0_1 : Int) (l0_2 : List Int) (a1_0 : Int) (a1_1 : Int) (a1_2 : Int) (a1_3 : Bool) (a1_4 : Int) : Option (List Int) := if a1_2 < 0 then (some (([] : List Int))) else ((spec_l2Field.f k a0_0 a0_1 l0_2 a1_2 a1_3).bind fun t223 => (some t223))
theorem spec_l7Field.mono : ∀ a0 a1 a2 a3 a4 a5 a6 a7 k, LeO (spec_l7Field.f k a0 a1 a2 a3 a4 a5 a6 a7) (spec_l7Field.f (k + 1) a0 a1 a2 a3 a4 a5 a6 a7) := by
 intro a0 a1 a2 a3 a4 a5 a6 a7 k
 unfold spec_l7Field.f
 have j0 := @spec_l2Field.mono
 exact qL
theorem spec_l7Field.calls (k : Nat) (a0_0 : Int) (a0_1 : Int) (A0_2 : Option Addr) (c0_2 : Nat) (l0_2 : List Int) (a1_0 : Int) (a1_1 : Int) (a1_2 : Int) (a1_3 : Bool) (a1_4 : Int) (r : List Int) (w : World) (hr0_2 : Kd.C (Kd.int .i64) w A0_2 l0_2.length l0_2) (hc0_2 : l0_2.length ≤ c0_2) (h : spec_l7Field.f k a0_0 a0_1 l0_2 a1_0 a1_1 a1_2 a1_3 a1_4 = some r) :
  Calls Try.prog 63 #[.agg #[.int .i64 a0_0, .int .i64 a0_1, .slice A0_2 l0_2.length c0_2], .agg #[.int .i64 a1_0, .int .i64 a1_1, .int .i64 a1_2, .bool a1_3, .int .i64 a1_4]] w fun e w' => ∃ v0_ : Value, e = .returned (v0_) ∧ Kd.R (Kd.int .i64) 3 w' w.heap.size (fun _ => True) v0_ r ∧ Below w.heap.size w w' := by
 have hu43 := Try.underlying43
 have hu37 := Try.underlying37
 have HR0_2 := aM hr0_2
 have HC0_2 := aM hc0_2
 clear hr0_2 hc0_2
 have HB := aM (Below.refl w.heap.size w)
 unfold spec_l7Field.f at h
 have H := h
 clear h
 replace H := iE_ H
 rcases H with ⟨c3b0, H⟩ | ⟨c3b0, H⟩
 {
 obtain ⟨y220, hy220⟩ : ∃ y_ : List Int, y_ = (([] : List Int)) := ⟨_, rfl⟩
 replace H : (some y220) = some r := by first | (rw [hy220]; exact H) | exact H
 have Ny220 := aM hy220
 clear hy220
 obtain rfl := Option.some.inj H
 go_enter Try.func63, Try.ntmps63
 go_wp2_with (first | ((with_reducible refine gate_dst (N := 2) rfl ?_); refine bx_ 2 #[.int .i64 a0_0, .int .i64 a0_1, .slice A0_2 l0_2.length c0_2] 43 ?_; intro gb218 hg w4 hbox hb; have BK218 := aM (hbox); have GW218 := aM (bz_ w hg qz1); have GE218 := GW218; replace HB := bS_ hb; clear hb hbox hg) | ((with_reducible refine gate_dst (N := 3) rfl ?_); refine bx_ 3 #[.int .i64 a1_0, .int .i64 a1_1, .int .i64 a1_2, .bool a1_3, .int .i64 a1_4] 37 ?_; intro gb219 hg w5 hbox hb; have BK219 := aM (hbox); have GW219 := aM (bz_ w hg qz1); have GE219 := GW219; replace HB := bS_ hb; obtain ⟨NB218_219, NB219_218⟩ := nb_ hg (bk_ BK218.out); replace BK218 := bB_ BK218 hb; clear hb hbox hg; have hnb6 := NB219_218.out; have hnc6 := NB218_219.out; obtain ⟨hcz7_0, hcz7_1, hcz7_2, hcz7_3, hcz7_4, hfz7_0, hfz7_1, hfz7_2, hfz7_3, hfz7_4⟩ := b10_ BK219.out) | ((with_reducible refine gate_dst (N := 8) rfl ?_); refine Kd.R_lit (Kd.int .i64) _ 3 ?hg (N := 8) ?hd (xs := ([] : List Int)) (inner := []) (ok := fun _ => True) (okp := fun _ => True) ?hr ?hp (fun _ hk => hk) trivial (Below.refl _ _) (Nat.le_refl _) (by simp) ?_; (case hd => rfl); (case hg => rfl); (case hr => exact qz9); (case hp => exact (Reps.none _ _)); intro v221 w8 ho9 hb hg_ hnew_; clear hg_ hnew_; (first | rw [← Ny220.out] at ho9 | (simp only [Int.reduceToNat] at ho9; rw [← Ny220.out] at ho9)); have HO222 := aM (Kd.R_lower ho9 (below_size qz1)); replace BK218 := bB_ BK218 hb; replace BK219 := bB_ BK219 hb; replace HB := bS_ hb; clear hb ho9))
 go_ret
 exact ⟨_, qzw, by (with_reducible repeat (first | apply Kd.R_alloc | apply Kd.R_drewN | apply Kd.R_drew)); exact HO222.out, qz1⟩
 }
 {
 replace H := Option.bind_eq_some_iff.mp H
 obtain ⟨t223, A100, H⟩ := H
 have A10 := aM A100
 clear A100
 obtain rfl := Option.some.inj H
 go_enter Try.func63, Try.ntmps63
 go_wp2_with (first | ((with_reducible refine gate_dst (N := 2) rfl ?_); refine bx_ 2 #[.int .i64 a0_0, .int .i64 a0_1, .slice A0_2 l0_2.length c0_2] 43 ?_; intro gb218 hg w11 hbox hb; have BK218 := aM (hbox); have GW218 := aM (bz_ w hg qz1); have GE218 := GW218; replace HB := bS_ hb; clear hb hbox hg) | ((with_reducible refine gate_dst (N := 3) rfl ?_); refine bx_ 3 #[.int .i64 a1_0, .int .i64 a1_1, .int .i64 a1_2, .bool a1_3, .int .i64 a1_4] 37 ?_; intro gb219 hg w12 hbox hb; have BK219 := aM (hbox); have GW219 := aM (bz_ w hg qz1); have GE219 := GW219; replace HB := bS_ hb; obtain ⟨NB218_219, NB219_218⟩ := nb_ hg (bk_ BK218.out); replace BK218 := bB_ BK218 hb; clear hb hbox hg; have hnb13 := NB219_218.out; have hnc13 := NB218_219.out; obtain ⟨hcz14_0, hcz14_1, hcz14_2, hcz14_3, hcz14_4, hfz14_0, hfz14_1, hfz14_2, hfz14_3, hfz14_4⟩ := b10_ BK219.out; obtain ⟨hcz15_0, hcz15_1, hcz15_2, hfz15_0, hfz15_1, hfz15_2⟩ := b6_ BK218.out) | ((with_reducible refine gate_callee (f := 101) rfl ?_); refine goesL_ (some 14) rfl rfl Try.func101 (by kernel_rfl) rfl #[.agg #[.int .i64 a0_0, .int .i64 a0_1, .slice A0_2 l0_2.length c0_2], .int .i64 a1_2, .bool a1_3] rfl qz2 ?_; (with_reducible refine (spec_l2Field.calls k a0_0 a0_1 _ _ l0_2 a1_2 a1_3 t223 _ ?_ ?_ A10.out).mono ?_); exact qz6; exact qz28; rintro e w16 ⟨v224, rfl, ho0, hb⟩; refine ⟨_, rfl, ?_⟩; have HO225 := aM (Kd.R_lower ho0 (below_size qz1)); replace BK218 := bB_ BK218 hb; replace BK219 := bB_ BK219 hb; replace HB := bS_ hb; (try clear hb ho0)))
 go_ret
 exact ⟨_, qzw, by (with_reducible repeat (first | apply Kd.R_alloc | apply Kd.R_drewN | apply Kd.R_drew)); exact HO225.out, qz1⟩
 }
end Go.Proofs.Ytankmdbbgepmbaa.PFnClashes
