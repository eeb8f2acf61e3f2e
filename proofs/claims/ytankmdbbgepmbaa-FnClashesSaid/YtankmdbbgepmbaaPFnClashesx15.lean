-- Made by a program of this session out of the translation. Lean checks it.
import Derived.Test.YtankmdbbgepmbaaPFnClashesx12
namespace Go.Proofs.Ytankmdbbgepmbaa.PFnClashes
open Go.RowKit Go.Proofs.YtankmdbbgepmbaaW.PrintWords Go.Proofs.YtankmdbbgepmbaaW.PrintLast Go.Proofs.YtankmdbbgepmbaaW.PrintMore
set_option linter.unusedVariables false
set_option linter.unusedSimpArgs false
set_option maxHeartbeats 16000000
set_option maxRecDepth 100000

/-! ### impl_CrewOk: function 45 -/
mutual
def impl_CrewOk.j0 : Nat → List (S37) → Bool → Int → Int → List Int → Option (Bool)
 | 0, _, _, _, _, _ => none
 | k + 1, x1, x16, x336000, x336001, x336002 => if x16 = true then (some false) else (impl_CrewOk.l0 k x1 x1 (x1.length : Int) 0 x336000 x336001 x336002)
def impl_CrewOk.l0 : Nat → List (S37) → List (S37) → Int → Int → Int → Int → List Int → Option (Bool)
 | 0, _, _, _, _, _, _, _ => none
 | k + 1, x1, x17, x18, x19, x336000, x336001, x336002 => if x19 < x18 then (if 0 ≤ x19 then (if x19 < (x17.length : Int) then ((impl_in.f ((rd_T37 x17 x19).f0) 1 99).bind fun t339 => (if t339 = true then (if x19 > 0 then (if 0 ≤ (wrap64 (x19 - 1)) then (if (wrap64 (x19 - 1)) < (x1.length : Int) then (if ((rd_T37 x1 (wrap64 (x19 - 1))).f0) ≥ ((rd_T37 x17 x19).f0) then (impl_CrewOk.j2 k x1 x19 x17 x18 x19 true x336000 x336001 x336002 ((rd_T37 x17 x19).f0) ((rd_T37 x17 x19).f1) ((rd_T37 x17 x19).f2) ((rd_T37 x17 x19).f3) ((rd_T37 x17 x19).f4)) else ((impl_standsOk.f k x336000 x336001 x336002 ((rd_T37 x17 x19).f0) ((rd_T37 x17 x19).f1) ((rd_T37 x17 x19).f2) ((rd_T37 x17 x19).f3) ((rd_T37 x17 x19).f4)).bind fun t341 => (if t341 = true then ((impl_in.f ((rd_T37 x17 x19).f4) 0 1000000).bind fun t342 => (impl_CrewOk.j2 k x1 x19 x17 x18 x19 (!t342) x336000 x336001 x336002 ((rd_T37 x17 x19).f0) ((rd_T37 x17 x19).f1) ((rd_T37 x17 x19).f2) ((rd_T37 x17 x19).f3) ((rd_T37 x17 x19).f4))) else (impl_CrewOk.j2 k x1 x19 x17 x18 x19 true x336000 x336001 x336002 ((rd_T37 x17 x19).f0) ((rd_T37 x17 x19).f1) ((rd_T37 x17 x19).f2) ((rd_T37 x17 x19).f3) ((rd_T37 x17 x19).f4))))) else (none)) else (none)) else ((impl_standsOk.f k x336000 x336001 x336002 ((rd_T37 x17 x19).f0) ((rd_T37 x17 x19).f1) ((rd_T37 x17 x19).f2) ((rd_T37 x17 x19).f3) ((rd_T37 x17 x19).f4)).bind fun t343 => (if t343 = true then ((impl_in.f ((rd_T37 x17 x19).f4) 0 1000000).bind fun t344 => (impl_CrewOk.j2 k x1 x19 x17 x18 x19 (!t344) x336000 x336001 x336002 ((rd_T37 x17 x19).f0) ((rd_T37 x17 x19).f1) ((rd_T37 x17 x19).f2) ((rd_T37 x17 x19).f3) ((rd_T37 x17 x19).f4))) else (impl_CrewOk.j2 k x1 x19 x17 x18 x19 true x336000 x336001 x336002 ((rd_T37 x17 x19).f0) ((rd_T37 x17 x19).f1) ((rd_T37 x17 x19).f2) ((rd_T37 x17 x19).f3) ((rd_T37 x17 x19).f4))))) else (impl_CrewOk.j2 k x1 x19 x17 x18 x19 true x336000 x336001 x336002 ((rd_T37 x17 x19).f0) ((rd_T37 x17 x19).f1) ((rd_T37 x17 x19).f2) ((rd_T37 x17 x19).f3) ((rd_T37 x17 x19).f4)))) else (none)) else (none)) else (some true)
def impl_CrewOk.j2 : Nat → List (S37) → Int → List (S37) → Int → Int → Bool → Int → Int → List Int → Int → Int → Int → Bool → Int → Option (Bool)
 | 0, _, _, _, _, _, _, _, _, _, _, _, _, _, _ => none
 | k + 1, x1, x5, x17, x18, x19, x54, x336000, x336001, x336002, x339000, x339001, x339002, x339003, x339004 => if x54 = true then (some false) else (if 0 ≤ x5 then (if x5 ≤ (x1.length : Int) then ((some (x1.take (x5 : Int).toNat : List (S37))).bind fun y345 => (impl_CrewOk.l1 k x1 x17 x18 x19 y345 (y345.length : Int) 0 x336000 x336001 x336002 x339000 x339001 x339002 x339003 x339004)) else (none)) else (none))
def impl_CrewOk.l1 : Nat → List (S37) → List (S37) → Int → Int → List (S37) → Int → Int → Int → Int → List Int → Int → Int → Int → Bool → Int → Option (Bool)
 | 0, _, _, _, _, _, _, _, _, _, _, _, _, _, _, _ => none
 | k + 1, x1, x17, x18, x19, x57, x58, x59, x336000, x336001, x336002, x339000, x339001, x339002, x339003, x339004 => if x59 < x58 then (if 0 ≤ x59 then (if x59 < (x57.length : Int) then (if ((rd_T37 x57 x59).f1) = x339001 then (some false) else (impl_CrewOk.l1 k x1 x17 x18 x19 x57 x58 (wrap64 (x59 + 1)) x336000 x336001 x336002 x339000 x339001 x339002 x339003 x339004)) else (none)) else (none)) else (impl_CrewOk.l0 k x1 x17 x18 (wrap64 (x19 + 1)) x336000 x336001 x336002)
end
def impl_CrewOk.f (k : Nat) (a0_0 : Int) (a0_1 : Int) (l0_2 : List Int) (l1 : List (S37)) : Option (Bool) := (impl_FloorOk.f k a0_0 a0_1 l0_2).bind fun t336 => (if t336 = true then (impl_CrewOk.j0 k l1 (decide ((l1.length : Int) > 20)) a0_0 a0_1 l0_2) else (impl_CrewOk.j0 k l1 true a0_0 a0_1 l0_2))
theorem impl_CrewOk.mono_l : ∀ k, (∀ y0 y1 y2 y3 y4, LeO (impl_CrewOk.j0 k y0 y1 y2 y3 y4) (impl_CrewOk.j0 (k + 1) y0 y1 y2 y3 y4)) ∧ (∀ y0 y1 y2 y3 y4 y5 y6, LeO (impl_CrewOk.l0 k y0 y1 y2 y3 y4 y5 y6) (impl_CrewOk.l0 (k + 1) y0 y1 y2 y3 y4 y5 y6)) ∧ (∀ y0 y1 y2 y3 y4 y5 y6 y7 y8 y9 y10 y11 y12 y13, LeO (impl_CrewOk.j2 k y0 y1 y2 y3 y4 y5 y6 y7 y8 y9 y10 y11 y12 y13) (impl_CrewOk.j2 (k + 1) y0 y1 y2 y3 y4 y5 y6 y7 y8 y9 y10 y11 y12 y13)) ∧ (∀ y0 y1 y2 y3 y4 y5 y6 y7 y8 y9 y10 y11 y12 y13 y14, LeO (impl_CrewOk.l1 k y0 y1 y2 y3 y4 y5 y6 y7 y8 y9 y10 y11 y12 y13 y14) (impl_CrewOk.l1 (k + 1) y0 y1 y2 y3 y4 y5 y6 y7 y8 y9 y10 y11 y12 y13 y14))
 | 0 => ⟨fun _ _ _ _ _ r h => by simp [impl_CrewOk.j0] at h, fun _ _ _ _ _ _ _ r h => by simp [impl_CrewOk.l0] at h, fun _ _ _ _ _ _ _ _ _ _ _ _ _ _ r h => by simp [impl_CrewOk.j2] at h, fun _ _ _ _ _ _ _ _ _ _ _ _ _ _ _ r h => by simp [impl_CrewOk.l1] at h⟩
 | k + 1 => by
  obtain ⟨ih0, ih1, ih2, ih3⟩ := impl_CrewOk.mono_l k
  refine ⟨?_, ?_, ?_, ?_⟩
  {
  intro y0 y1 y2 y3 y4
  unfold impl_CrewOk.j0
  have j0 := @impl_FloorOk.mono
  have j1 := @impl_standsOk.mono
  exact qL
  }
  {
  intro y0 y1 y2 y3 y4 y5 y6
  unfold impl_CrewOk.l0
  have j0 := @impl_FloorOk.mono
  have j1 := @impl_standsOk.mono
  exact qL
  }
  {
  intro y0 y1 y2 y3 y4 y5 y6 y7 y8 y9 y10 y11 y12 y13
  unfold impl_CrewOk.j2
  have j0 := @impl_FloorOk.mono
  have j1 := @impl_standsOk.mono
  exact qL
  }
  {
  intro y0 y1 y2 y3 y4 y5 y6 y7 y8 y9 y10 y11 y12 y13 y14
  unfold impl_CrewOk.l1
  have j0 := @impl_FloorOk.mono
  have j1 := @impl_standsOk.mono
  exact qL
  }
theorem impl_CrewOk.mono : ∀ a0 a1 a2 a3 k, LeO (impl_CrewOk.f k a0 a1 a2 a3) (impl_CrewOk.f (k + 1) a0 a1 a2 a3) := by
 intro a0 a1 a2 a3 k
 obtain ⟨ih0, ih1, ih2, ih3⟩ := impl_CrewOk.mono_l k
 unfold impl_CrewOk.f
 have j0 := @impl_FloorOk.mono
 have j1 := @impl_standsOk.mono
 exact qL
def impl_CrewOk.T6 : Bool × List (List Nat × List Nat) := (true, [([], []), ([0], [0]), ([1], [1]), ([2], [2]), ([3, 2], [3]), ([4], [4]), ([5, 4], [4, 5]), ([6, 4, 4], [4, 6]), ([7], [7]), ([7], [7]), ([9, 7], [7, 9]), ([8, 10, 7], [7, 8, 10]), ([11, 7], [7, 11]), ([12, 7], [7, 12]), ([7], [7]), ([14, 7], [7, 14]), ([13, 15, 7], [7, 13, 15]), ([7, 16, 4], [4, 7, 16]), ([4, 17], [4, 17]), ([18, 7], [18]), ([19], [19]), ([19], [19]), ([20, 21, 19, 19], [19, 20, 21]), ([22, 19], [19, 22]), ([19, 23], [19, 23]), ([24, 22], [24]), ([25], [25]), ([26, 25], [25, 26]), ([27, 25, 25], [25, 27]), ([28, 25], [25, 28]), ([25, 29], [25, 29])])
def impl_CrewOk.B6 : List Nat := [0, 1, 3, 7, 15, 31, 63, 127, 255, 255, 767, 2047, 4095, 8191, 255, 16639, 65535, 131071, 262143, 524287, 1048575, 1048575, 4194303, 8388607, 16777215, 33554431, 67108863, 134217727, 268435455, 536870911, 1073741823]
theorem impl_CrewOk.tab6 : rtab .any (opsOf Try.f45 6) = impl_CrewOk.T6 := by kernel_rfl
theorem impl_CrewOk.bits6 : waitsOk impl_CrewOk.T6.2 impl_CrewOk.B6 = true := by kernel_rfl
theorem impl_CrewOk.calls (k : Nat) (a0_0 : Int) (a0_1 : Int) (A0_2 : Option Addr) (c0_2 : Nat) (l0_2 : List Int) (A1 : Option Addr) (c1 : Nat) (l1 : List (S37)) (r : Bool) (w : World) (hr0_2 : Kd.C (Kd.int .i64) w A0_2 l0_2.length l0_2) (hc0_2 : l0_2.length ≤ c0_2) (hr1 : Kd.C k37 w A1 l1.length l1) (hc1 : l1.length ≤ c1) (h : impl_CrewOk.f k a0_0 a0_1 l0_2 l1 = some r) :
  Calls Try.prog 45 #[.agg #[.int .i64 a0_0, .int .i64 a0_1, .slice A0_2 l0_2.length c0_2], .slice A1 l1.length c1] w fun e w' => e = .returned (.bool r) ∧ Below w.heap.size w w' := by
 have hu43 := Try.underlying43
 have hu37 := Try.underlying37
 have HR0_2 := aM hr0_2
 have HC0_2 := aM hc0_2
 clear hr0_2 hc0_2
 have HR1 := aM hr1
 have HC1 := aM hc1
 clear hr1 hc1
 have HB := aM (Below.refl w.heap.size w)
 unfold impl_CrewOk.f at h
 have H := h
 clear h
 have HC3 := aM H
 clear H
 go_enter Try.func45, Try.ntmps45
 go_upto_region 1 with (first | ((with_reducible refine gate_dst (N := 2) rfl ?_); (try (refine gate_guard (by rfl) ?_; dsimp only)); refine bx_ 2 #[.int .i64 a0_0, .int .i64 a0_1, .slice A0_2 l0_2.length c0_2] 43 ?_; intro gb335 hg w4 hbox hb; have BK335 := aM (hbox); have GW335 := aM (bz_ w hg qz1); have GE335 := GW335; replace HB := bS_ hb; clear hb hbox hg))
 (try simp only [Act.put, List.setIfInBounds_toArray, List.set_cons_zero, List.set_cons_succ])
 go_cut [16] (fun v16 wc => ∃ (kq : Nat) (x16_2 : Bool), v16 = .bool x16_2 ∧ Aside0 (impl_CrewOk.j0 kq l1 x16_2 a0_0 a0_1 l0_2 = some r) ∧ Aside0 (kq ≤ k) ∧ Aside0 (wc.heap[gb335]? = some (.cells #[.int .i64 a0_0, .int .i64 a0_1, (.slice A0_2 l0_2.length c0_2)] 43 (0, 0))) ∧ Aside0 (Below w.heap.size w wc))
 case first =>
  have H := HC3.out
  clear HC3
  replace H := Option.bind_eq_some_iff.mp H
  obtain ⟨t336, A50, H⟩ := H
  have A5 := aM A50
  clear A50
  replace H := iB_ H
  rcases H with ⟨rfl, H⟩ | ⟨rfl, H⟩
  {
  have H' := aM H
  clear H
  obtain ⟨hcz7_0, hcz7_1, hcz7_2, hfz7_0, hfz7_1, hfz7_2⟩ := b6_ BK335.out
  go_wp2_with (first | ((with_reducible refine gate_callee (f := 64) rfl ?_); refine goesL_ (some 10) rfl rfl Try.func64 (by kernel_rfl) rfl #[.agg #[.int .i64 a0_0, .int .i64 a0_1, .slice A0_2 l0_2.length c0_2]] rfl qz2 ?_; (with_reducible refine (impl_FloorOk.calls k a0_0 a0_1 _ _ l0_2 true _ ?_ ?_ A5.out).mono ?_); exact qz6; exact qz28; rintro e w8 ⟨rfl, hb⟩; refine ⟨_, rfl, ?_⟩; replace BK335 := bB_ BK335 hb; replace HB := bS_ hb; (try clear hb)))
  go_meet
  case rel => exact ⟨_, (decide ((l1.length : Int) > 20)), qz7, H', ⟨by first | omega | exact Nat.le_refl _⟩, ⟨bk_ BK335.out⟩, ⟨qz1⟩⟩
  }
  {
  have H' := aM H
  clear H
  obtain ⟨hcz9_0, hcz9_1, hcz9_2, hfz9_0, hfz9_1, hfz9_2⟩ := b6_ BK335.out
  go_wp2_with (first | ((with_reducible refine gate_callee (f := 64) rfl ?_); refine goesL_ (some 10) rfl rfl Try.func64 (by kernel_rfl) rfl #[.agg #[.int .i64 a0_0, .int .i64 a0_1, .slice A0_2 l0_2.length c0_2]] rfl qz2 ?_; (with_reducible refine (impl_FloorOk.calls k a0_0 a0_1 _ _ l0_2 false _ ?_ ?_ A5.out).mono ?_); exact qz6; exact qz28; rintro e w10 ⟨rfl, hb⟩; refine ⟨_, rfl, ?_⟩; replace BK335 := bB_ BK335 hb; replace HB := bS_ hb; (try clear hb)))
  go_meet
  case rel => exact ⟨_, (true), qz7, H', ⟨by first | omega | exact Nat.le_refl _⟩, ⟨bk_ BK335.out⟩, ⟨qz1⟩⟩
  }
 case rest =>
 clear HC3
 try clear c1
 obtain ⟨kq, x16_2, rfl, HA, HJ2, BK335, HB⟩ := hcut
 cases kq with
 | zero => exact absurd HA.out (by simp [impl_CrewOk.j0])
 | succ kj2 =>
 have H := HA.out
 clear HA
 simp only [impl_CrewOk.j0] at H
 replace H := iB_ H
 rcases H with ⟨rfl, H⟩ | ⟨rfl, H⟩
 {
 obtain rfl := Option.some.inj H
 go_wp2
 go_ret
 exact ⟨qzw, qz1⟩
 }
 {
 have H' := aM H
 clear H
 go_wp2
 go_loopg [19] kj2 (fun kq v19 w' => ∃ (x19_2 : Int), v19 = .int .i64 x19_2 ∧ Aside0 (impl_CrewOk.l0 kq l1 l1 (l1.length : Int) x19_2 a0_0 a0_1 l0_2 = some r) ∧ Aside0 (kq ≤ kj2) ∧ Aside0 (w'.heap[gb335]? = some (.cells #[.int .i64 a0_0, .int .i64 a0_1, (.slice A0_2 l0_2.length c0_2)] 43 (0, 0))) ∧ Aside0 (Below w.heap.size w w'))
 case atStart => exact ⟨(0), qz7, H', ⟨Nat.le_refl _⟩, ⟨bk_ BK335.out⟩, ⟨qz1⟩⟩
 case round =>
 clear H'
 try clear c1
 try clear c11
 obtain ⟨x19_2, rfl, HA, HK2, BK335, HB⟩ := hrel
 cases gk with
 | zero => exact absurd HA.out (by simp [impl_CrewOk.l0])
 | succ k2 =>
 have H := HA.out
 clear HA
 simp only [impl_CrewOk.l0] at H
 replace H := iE_ H
 rcases H with ⟨c12b0, H⟩ | ⟨c12b0, H⟩
 {
 replace H := iD_ H
 obtain ⟨c13b0, H⟩ := H
 replace H := iD_ H
 obtain ⟨c14b0, H⟩ := H
 have HC15 := aM H
 clear H
 have p337 : (0 ≤ (x19_2 : Int)) = True := et_
 have q337 : (x19_2 < (l1.length : Int)) = True := et_
 obtain ⟨ad337, e337, hx337_0, hx337_1, hx337_2, hx337_3, hx337_4⟩ := tC5_ (at_T37 HR1.out x19_2 dt_ dt_)
 cases e337
 go_upto_region 6 with (first | ((with_reducible refine gate_dst (N := 6) rfl ?_); (try (refine gate_guard (by rfl) ?_; dsimp only)); refine bx_ 6 #[.int .i64 0, .int .i64 0, .int .i64 0, .bool false, .int .i64 0] 37 ?_; intro gb338 hg w16 hbox hb; have BK338 := aM (hbox); have GW338 := aM (bz_ w hg qz1); have GE338 := GW338; replace HB := bS_ hb; obtain ⟨NB335_338, NB338_335⟩ := nb_ hg (bk_ BK335.out); replace BK335 := bB_ BK335 hb; clear hb hbox hg; have hnb17 := NB338_335.out; have hnc17 := NB335_338.out; obtain ⟨hcz18_0, hcz18_1, hcz18_2, hcz18_3, hcz18_4, hfz18_0, hfz18_1, hfz18_2, hfz18_3, hfz18_4⟩ := b10_ BK338.out))
 (try simp only [Act.put, List.setIfInBounds_toArray, List.set_cons_zero, List.set_cons_succ])
 go_cut [54] (fun v54 wc => ∃ (kq : Nat) (x54_14 : Bool), v54 = .bool x54_14 ∧ Aside0 (impl_CrewOk.j2 kq l1 x19_2 l1 (l1.length : Int) x19_2 x54_14 a0_0 a0_1 l0_2 ((rd_T37 l1 x19_2).f0) ((rd_T37 l1 x19_2).f1) ((rd_T37 l1 x19_2).f2) ((rd_T37 l1 x19_2).f3) ((rd_T37 l1 x19_2).f4) = some r) ∧ Aside0 (kq ≤ k2) ∧ Aside0 (wc.heap[gb335]? = some (.cells #[.int .i64 a0_0, .int .i64 a0_1, (.slice A0_2 l0_2.length c0_2)] 43 (0, 0))) ∧ Aside0 (wc.heap[gb338]? = some (.cells #[.int .i64 ((rd_T37 l1 x19_2).f0), .int .i64 ((rd_T37 l1 x19_2).f1), .int .i64 ((rd_T37 l1 x19_2).f2), .bool ((rd_T37 l1 x19_2).f3), .int .i64 ((rd_T37 l1 x19_2).f4)] 37 (0, 0))) ∧ Aside0 (Below w.heap.size w wc))
 case first =>
  have H := HC15.out
  clear HC15
  replace H := Option.bind_eq_some_iff.mp H
  obtain ⟨t339, A190, H⟩ := H
  have A19 := aM A190
  clear A190
  replace H := iB_ H
  rcases H with ⟨rfl, H⟩ | ⟨rfl, H⟩
  {
  replace H := iE_ H
  rcases H with ⟨c21b0, H⟩ | ⟨c21b0, H⟩
  {
  (first | rw [c21b0] | (simp only [i64_w, i32_w]; rw [c21b0]) | rw [@decide_eq_true _ _ (of_decide_eq_true c21b0)] | rw [@decide_eq_true _ _ (of_decide_eq_true c21b1)] | skip)
  obtain ⟨ji22, hji22⟩ : ∃ j_ : Int, (wrap64 (x19_2 - 1)) = j_ := ⟨_, rfl⟩
  replace H : (if 0 ≤ (ji22) then (if (ji22) < (l1.length : Int) then (if ((rd_T37 l1 (ji22)).f0) ≥ ((rd_T37 l1 x19_2).f0) then (impl_CrewOk.j2 k2 l1 x19_2 l1 (l1.length : Int) x19_2 true a0_0 a0_1 l0_2 ((rd_T37 l1 x19_2).f0) ((rd_T37 l1 x19_2).f1) ((rd_T37 l1 x19_2).f2) ((rd_T37 l1 x19_2).f3) ((rd_T37 l1 x19_2).f4)) else ((impl_standsOk.f k2 a0_0 a0_1 l0_2 ((rd_T37 l1 x19_2).f0) ((rd_T37 l1 x19_2).f1) ((rd_T37 l1 x19_2).f2) ((rd_T37 l1 x19_2).f3) ((rd_T37 l1 x19_2).f4)).bind fun t341 => (if t341 = true then ((impl_in.f ((rd_T37 l1 x19_2).f4) 0 1000000).bind fun t342 => (impl_CrewOk.j2 k2 l1 x19_2 l1 (l1.length : Int) x19_2 (!t342) a0_0 a0_1 l0_2 ((rd_T37 l1 x19_2).f0) ((rd_T37 l1 x19_2).f1) ((rd_T37 l1 x19_2).f2) ((rd_T37 l1 x19_2).f3) ((rd_T37 l1 x19_2).f4))) else (impl_CrewOk.j2 k2 l1 x19_2 l1 (l1.length : Int) x19_2 true a0_0 a0_1 l0_2 ((rd_T37 l1 x19_2).f0) ((rd_T37 l1 x19_2).f1) ((rd_T37 l1 x19_2).f2) ((rd_T37 l1 x19_2).f3) ((rd_T37 l1 x19_2).f4))))) else (none)) else (none)) = some r := by first | (rw [hji22] at H; exact H) | (simp only [hji22] at H ⊢; exact H)
  (try rw [hji22] at A19)
  have hji22w : (IntKind.i64.wrap (x19_2 - 1)) = ji22 := (i64_w _).trans hji22
  replace H := iD_ H
  obtain ⟨c23b0, H⟩ := H
  replace H := iD_ H
  obtain ⟨c24b0, H⟩ := H
  replace H := iE_ H
  rcases H with ⟨c25b0, H⟩ | ⟨c25b0, H⟩
  {
  have H' := aM H
  clear H
  try go_wp2
  generalize hq_ : (((((w16.setCell ⟨gb338, 0, none⟩ (.int .i64 ((rd_T37 l1 x19_2).f0))).setCell ⟨gb338, 1, none⟩ (.int .i64 ((rd_T37 l1 x19_2).f1))).setCell ⟨gb338, 2, none⟩ (.int .i64 ((rd_T37 l1 x19_2).f2))).setCell ⟨gb338, 3, none⟩ (.bool ((rd_T37 l1 x19_2).f3))).setCell ⟨gb338, 4, none⟩ (.int .i64 ((rd_T37 l1 x19_2).f4))) = w26
  replace BK335 := bqo_ hq_ BK335
  replace BK338 := bq5_ hq_ BK338
  replace HB : Aside0 (Below w.heap.size w w26) := ⟨by rw [← hq_]; exact qz1⟩
  clear hq_
  replace BK335 := aM (blk_drew BK335.out)
  replace BK338 := aM (blk_drew BK338.out)
  replace HB := aM (below_drew1 HB.out)
  have p340 : (0 ≤ ((ji22) : Int)) = True := et_
  have q340 : ((ji22) < (l1.length : Int)) = True := et_
  obtain ⟨ad340, e340, hx340_0, hx340_1, hx340_2, hx340_3, hx340_4⟩ := at_T37 HR1.out (ji22) dt_ dt_
  have hw340_4 := hx340_4
  have hw340_3 := hx340_3
  have hw340_2 := hx340_2
  have hw340_1 := hx340_1
  have hw340_0 := hx340_0
  obtain rfl := iJ_ e340
  replace hx340_0 := cB_ hx340_0
  replace hx340_1 := cB_ hx340_1
  replace hx340_2 := cB_ hx340_2
  replace hx340_3 := cB_ hx340_3
  replace hx340_4 := cB_ hx340_4
  refine start_ (n := 31) (S := fun w' => w'.cell? ⟨gb338, 0, none⟩ = some (.int .i64 ((rd_T37 l1 x19_2).f0)) ∧ w'.cell? ⟨gb338, 1, none⟩ = some (.int .i64 ((rd_T37 l1 x19_2).f1)) ∧ w'.cell? ⟨gb338, 2, none⟩ = some (.int .i64 ((rd_T37 l1 x19_2).f2)) ∧ w'.cell? ⟨gb338, 3, none⟩ = some (.bool ((rd_T37 l1 x19_2).f3)) ∧ w'.cell? ⟨gb338, 4, none⟩ = some (.int .i64 ((rd_T37 l1 x19_2).f4)) ∧ w'.cell? (ad337.add (((ji22)).toNat * 5)) = some (.int .i64 ((rd_T37 l1 (ji22)).f0)) ∧ w'.cell? ⟨(ad337.add (((ji22)).toNat * 5)).block, (ad337.add (((ji22)).toNat * 5)).off + 1, none⟩ = some (.int .i64 ((rd_T37 l1 (ji22)).f1)) ∧ w'.cell? ⟨(ad337.add (((ji22)).toNat * 5)).block, (ad337.add (((ji22)).toNat * 5)).off + 2, none⟩ = some (.int .i64 ((rd_T37 l1 (ji22)).f2)) ∧ w'.cell? ⟨(ad337.add (((ji22)).toNat * 5)).block, (ad337.add (((ji22)).toNat * 5)).off + 3, none⟩ = some (.bool ((rd_T37 l1 (ji22)).f3)) ∧ w'.cell? ⟨(ad337.add (((ji22)).toNat * 5)).block, (ad337.add (((ji22)).toNat * 5)).off + 4, none⟩ = some (.int .i64 ((rd_T37 l1 (ji22)).f4))) (ds := []) #[false, false, false, false, false, false, false, false, false, false, false, false, false, false, false, false, false, false, false, false, false, false, false, false, false, false, false, false, false, false, false] (by kernel_rfl) rfl rfl ⟨(blk_cell BK338.out 0).trans rfl, (blk_cell BK338.out 1).trans rfl, (blk_cell BK338.out 2).trans rfl, (blk_cell BK338.out 3).trans rfl, (blk_cell BK338.out 4).trans rfl, (cB_ hw340_0), (cB_ hw340_1), (cB_ hw340_2), (cB_ hw340_3), (cB_ hw340_4)⟩ (fun hHeld => ?_); refine with_tabW impl_CrewOk.tab6 impl_CrewOk.bits6 (fun HT_ HW_ => ?_)
  generalize w26.drew = w27 at BK335 BK338 HB hx340_0 hx340_1 hx340_2 hx340_3 hx340_4 hHeld ⊢
  refine pI_ 0 (bqz 31 1) ?_
  refine sI10_ 1 ?_
  refine oI_ 2 26 (bqz 31 7) (fun K hK => ?_)
  refine goes_ Try.func88 (by kernel_rfl) rfl #[.int .i64 ((rd_T37 l1 x19_2).f0), .int .i64 1, .int .i64 99] (by rfl) rfl rfl qz2 ?_
  with_reducible refine (impl_in.calls ((rd_T37 l1 x19_2).f0) 1 99 true _ A19.out).mono ?_
  rintro e w' ⟨rfl, ⟨nd, rfl⟩⟩
  refine ⟨_, rfl, ?_⟩
  refine hK.out _ _ (b5A_ BK338 ⟨(cB_ hw340_0), (cB_ hw340_1), (cB_ hw340_2), (cB_ hw340_3), (cB_ hw340_4)⟩) (fun hHeld => ?_)
  clear hK K
  refine nm_ 26 ?_
  refine jI_ 3 ?_
  refine jI_ 4 ?_
  refine jI_ 5 ?_
  refine jI_ 6 ?_
  refine jI_ 7 ?_
  refine jI_ 8 ?_
  refine jI_ 9 ?_
  refine jI_ 10 ?_
  refine jI_ 11 ?_
  refine jI_ 12 ?_
  refine jI_ 14 ?_
  refine sI10_ 13 ?_
  refine sI10_ 15 ?_
  refine jI_ 16 ?_
  refine jI_ 17 ?_
  refine jI_ 18 ?_
  refine jI_ 19 ?_
  refine jU_ 20 ?_
  refine jU_ 21 ?_
  refine jU_ 22 ?_
  refine jU_ 23 ?_
  refine jI_ 24 ?_
  refine jI_ 25 ?_
  refine jU_ 26 ?_
  refine jU_ 27 ?_
  refine jU_ 28 ?_
  refine jU_ 29 ?_
  refine jI_ 30 ?_
  refine dN_ ?_
  try go_wp2
  go_meet
  case rel => exact ⟨_, (true), qz7, H', ⟨by have := HJ2.out; have := HK2.out; first | omega | exact Nat.le_refl _⟩, ⟨bk_ BK335.out⟩, ⟨bk_ BK338.out⟩, ⟨qz1⟩⟩
  }
  {
  replace H := Option.bind_eq_some_iff.mp H
  obtain ⟨t341, A280, H⟩ := H
  have A28 := aM A280
  clear A280
  replace H := iB_ H
  rcases H with ⟨rfl, H⟩ | ⟨rfl, H⟩
  {
  replace H := Option.bind_eq_some_iff.mp H
  obtain ⟨t342, A300, H⟩ := H
  have A30 := aM A300
  clear A300
  have H' := aM H
  clear H
  try go_wp2
  generalize hq_ : (((((w16.setCell ⟨gb338, 0, none⟩ (.int .i64 ((rd_T37 l1 x19_2).f0))).setCell ⟨gb338, 1, none⟩ (.int .i64 ((rd_T37 l1 x19_2).f1))).setCell ⟨gb338, 2, none⟩ (.int .i64 ((rd_T37 l1 x19_2).f2))).setCell ⟨gb338, 3, none⟩ (.bool ((rd_T37 l1 x19_2).f3))).setCell ⟨gb338, 4, none⟩ (.int .i64 ((rd_T37 l1 x19_2).f4))) = w31
  replace BK335 := bqo_ hq_ BK335
  replace BK338 := bq5_ hq_ BK338
  replace HB : Aside0 (Below w.heap.size w w31) := ⟨by rw [← hq_]; exact qz1⟩
  clear hq_
  replace BK335 := aM (blk_drew BK335.out)
  replace BK338 := aM (blk_drew BK338.out)
  replace HB := aM (below_drew1 HB.out)
  have p340 : (0 ≤ ((ji22) : Int)) = True := et_
  have q340 : ((ji22) < (l1.length : Int)) = True := et_
  obtain ⟨ad340, e340, hx340_0, hx340_1, hx340_2, hx340_3, hx340_4⟩ := at_T37 HR1.out (ji22) dt_ dt_
  have hw340_4 := hx340_4
  have hw340_3 := hx340_3
  have hw340_2 := hx340_2
  have hw340_1 := hx340_1
  have hw340_0 := hx340_0
  obtain rfl := iJ_ e340
  replace hx340_0 := cB_ hx340_0
  replace hx340_1 := cB_ hx340_1
  replace hx340_2 := cB_ hx340_2
  replace hx340_3 := cB_ hx340_3
  replace hx340_4 := cB_ hx340_4
  refine start_ (n := 31) (S := fun w' => w'.cell? ⟨gb338, 0, none⟩ = some (.int .i64 ((rd_T37 l1 x19_2).f0)) ∧ w'.cell? ⟨gb338, 1, none⟩ = some (.int .i64 ((rd_T37 l1 x19_2).f1)) ∧ w'.cell? ⟨gb338, 2, none⟩ = some (.int .i64 ((rd_T37 l1 x19_2).f2)) ∧ w'.cell? ⟨gb338, 3, none⟩ = some (.bool ((rd_T37 l1 x19_2).f3)) ∧ w'.cell? ⟨gb338, 4, none⟩ = some (.int .i64 ((rd_T37 l1 x19_2).f4)) ∧ w'.cell? ⟨gb335, 0, none⟩ = some (.int .i64 a0_0) ∧ w'.cell? ⟨gb335, 1, none⟩ = some (.int .i64 a0_1) ∧ w'.cell? ⟨gb335, 2, none⟩ = some (.slice A0_2 l0_2.length c0_2) ∧ w'.cell? (ad337.add (((ji22)).toNat * 5)) = some (.int .i64 ((rd_T37 l1 (ji22)).f0)) ∧ w'.cell? ⟨(ad337.add (((ji22)).toNat * 5)).block, (ad337.add (((ji22)).toNat * 5)).off + 1, none⟩ = some (.int .i64 ((rd_T37 l1 (ji22)).f1)) ∧ w'.cell? ⟨(ad337.add (((ji22)).toNat * 5)).block, (ad337.add (((ji22)).toNat * 5)).off + 2, none⟩ = some (.int .i64 ((rd_T37 l1 (ji22)).f2)) ∧ w'.cell? ⟨(ad337.add (((ji22)).toNat * 5)).block, (ad337.add (((ji22)).toNat * 5)).off + 3, none⟩ = some (.bool ((rd_T37 l1 (ji22)).f3)) ∧ w'.cell? ⟨(ad337.add (((ji22)).toNat * 5)).block, (ad337.add (((ji22)).toNat * 5)).off + 4, none⟩ = some (.int .i64 ((rd_T37 l1 (ji22)).f4))) (ds := []) #[false, false, false, false, false, false, false, false, false, false, false, false, false, false, false, false, false, false, false, false, false, false, false, false, false, false, false, false, false, false, false] (by kernel_rfl) rfl rfl ⟨(blk_cell BK338.out 0).trans rfl, (blk_cell BK338.out 1).trans rfl, (blk_cell BK338.out 2).trans rfl, (blk_cell BK338.out 3).trans rfl, (blk_cell BK338.out 4).trans rfl, (blk_cell BK335.out 0).trans rfl, (blk_cell BK335.out 1).trans rfl, (blk_cell BK335.out 2).trans rfl, (cB_ hw340_0), (cB_ hw340_1), (cB_ hw340_2), (cB_ hw340_3), (cB_ hw340_4)⟩ (fun hHeld => ?_); refine with_tabW impl_CrewOk.tab6 impl_CrewOk.bits6 (fun HT_ HW_ => ?_)
  generalize w31.drew = w32 at BK335 BK338 HB hx340_0 hx340_1 hx340_2 hx340_3 hx340_4 hHeld ⊢
  refine pI_ 0 (bqz 31 1) ?_
  refine sI13_ 1 ?_
  refine oI_ 2 26 (bqz 31 7) (fun K hK => ?_)
  refine goes_ Try.func88 (by kernel_rfl) rfl #[.int .i64 ((rd_T37 l1 x19_2).f0), .int .i64 1, .int .i64 99] (by rfl) rfl rfl qz2 ?_
  with_reducible refine (impl_in.calls ((rd_T37 l1 x19_2).f0) 1 99 true _ A19.out).mono ?_
  rintro e w' ⟨rfl, ⟨nd, rfl⟩⟩
  refine ⟨_, rfl, ?_⟩
  refine hK.out _ _ (b5A_ BK338 (b3A_ BK335 ⟨(cB_ hw340_0), (cB_ hw340_1), (cB_ hw340_2), (cB_ hw340_3), (cB_ hw340_4)⟩)) (fun hHeld => ?_)
  clear hK K
  refine nm_ 26 ?_
  refine jI_ 3 ?_
  refine jI_ 4 ?_
  refine jI_ 5 ?_
  refine jI_ 6 ?_
  refine jI_ 7 ?_
  refine jI_ 8 ?_
  refine jI_ 9 ?_
  refine jI_ 10 ?_
  refine jI_ 11 ?_
  refine jI_ 12 ?_
  refine jI_ 14 ?_
  refine sI13_ 13 ?_
  refine sI13_ 15 ?_
  refine jI_ 16 ?_
  refine jI_ 17 ?_
  refine jI_ 18 ?_
  refine jI_ 19 ?_
  refine sI13_ 20 ?_
  refine sI13_ 21 ?_
  refine oI_ 22 46 (bqz 31 8388607) (fun K hK => ?_)
  refine goes_ Try.func65 (by kernel_rfl) rfl #[.agg #[.int .i64 a0_0, .int .i64 a0_1, .slice A0_2 l0_2.length c0_2], .agg #[.int .i64 ((rd_T37 l1 x19_2).f0), .int .i64 ((rd_T37 l1 x19_2).f1), .int .i64 ((rd_T37 l1 x19_2).f2), .bool ((rd_T37 l1 x19_2).f3), .int .i64 ((rd_T37 l1 x19_2).f4)]] (by rfl) rfl rfl qz2 ?_
  with_reducible refine (impl_standsOk.calls k2 a0_0 a0_1 _ _ l0_2 ((rd_T37 l1 x19_2).f0) ((rd_T37 l1 x19_2).f1) ((rd_T37 l1 x19_2).f2) ((rd_T37 l1 x19_2).f3) ((rd_T37 l1 x19_2).f4) true _ ?side1 ?side2 A28.out).mono ?_
  (case side1 => exact qz31)
  (case side2 => exact qz28)
  rintro e w33 ⟨rfl, hb⟩
  refine ⟨_, rfl, ?_⟩
  replace BK335 := bB_ BK335 hb
  replace BK338 := bB_ BK338 hb
  replace HB := bS_ hb
  (try clear hb)
  (try clear hb2)
  (try clear hk)
  (try clear hi)
  refine hK.out _ _ (b5A_ BK338 (b3A_ BK335 ⟨(cB_ hw340_0), (cB_ hw340_1), (cB_ hw340_2), (cB_ hw340_3), (cB_ hw340_4)⟩)) (fun hHeld => ?_)
  clear hK K
  refine nm_ 46 ?_
  refine pI_ 23 (bqz 31 16777215) ?_
  refine jI_ 24 ?_
  refine jI_ 25 ?_
  refine jI_ 26 ?_
  refine sI13_ 27 ?_
  refine oI_ 28 52 (bqz 31 536870911) (fun K hK => ?_)
  refine goes_ Try.func88 (by kernel_rfl) rfl #[.int .i64 ((rd_T37 l1 x19_2).f4), .int .i64 0, .int .i64 1000000] (by rfl) rfl rfl qz2 ?_
  with_reducible refine (impl_in.calls ((rd_T37 l1 x19_2).f4) 0 1000000 t342 _ A30.out).mono ?_
  rintro e w' ⟨rfl, ⟨nd, rfl⟩⟩
  refine ⟨_, rfl, ?_⟩
  refine hK.out _ _ (b5A_ BK338 (b3A_ BK335 ⟨(cB_ hw340_0), (cB_ hw340_1), (cB_ hw340_2), (cB_ hw340_3), (cB_ hw340_4)⟩)) (fun hHeld => ?_)
  clear hK K
  refine nm_ 52 ?_
  refine jI_ 29 ?_
  refine jI_ 30 ?_
  refine dN_ ?_
  try go_wp2
  go_meet
  case rel => exact ⟨_, (!t342), qz7, H', ⟨by have := HJ2.out; have := HK2.out; first | omega | exact Nat.le_refl _⟩, ⟨bk_ BK335.out⟩, ⟨bk_ BK338.out⟩, ⟨qz1⟩⟩
  }
  {
  have H' := aM H
  clear H
  try go_wp2
  generalize hq_ : (((((w16.setCell ⟨gb338, 0, none⟩ (.int .i64 ((rd_T37 l1 x19_2).f0))).setCell ⟨gb338, 1, none⟩ (.int .i64 ((rd_T37 l1 x19_2).f1))).setCell ⟨gb338, 2, none⟩ (.int .i64 ((rd_T37 l1 x19_2).f2))).setCell ⟨gb338, 3, none⟩ (.bool ((rd_T37 l1 x19_2).f3))).setCell ⟨gb338, 4, none⟩ (.int .i64 ((rd_T37 l1 x19_2).f4))) = w34
  replace BK335 := bqo_ hq_ BK335
  replace BK338 := bq5_ hq_ BK338
  replace HB : Aside0 (Below w.heap.size w w34) := ⟨by rw [← hq_]; exact qz1⟩
  clear hq_
  replace BK335 := aM (blk_drew BK335.out)
  replace BK338 := aM (blk_drew BK338.out)
  replace HB := aM (below_drew1 HB.out)
  have p340 : (0 ≤ ((ji22) : Int)) = True := et_
  have q340 : ((ji22) < (l1.length : Int)) = True := et_
  obtain ⟨ad340, e340, hx340_0, hx340_1, hx340_2, hx340_3, hx340_4⟩ := at_T37 HR1.out (ji22) dt_ dt_
  have hw340_4 := hx340_4
  have hw340_3 := hx340_3
  have hw340_2 := hx340_2
  have hw340_1 := hx340_1
  have hw340_0 := hx340_0
  obtain rfl := iJ_ e340
  replace hx340_0 := cB_ hx340_0
  replace hx340_1 := cB_ hx340_1
  replace hx340_2 := cB_ hx340_2
  replace hx340_3 := cB_ hx340_3
  replace hx340_4 := cB_ hx340_4
  refine start_ (n := 31) (S := fun w' => w'.cell? ⟨gb338, 0, none⟩ = some (.int .i64 ((rd_T37 l1 x19_2).f0)) ∧ w'.cell? ⟨gb338, 1, none⟩ = some (.int .i64 ((rd_T37 l1 x19_2).f1)) ∧ w'.cell? ⟨gb338, 2, none⟩ = some (.int .i64 ((rd_T37 l1 x19_2).f2)) ∧ w'.cell? ⟨gb338, 3, none⟩ = some (.bool ((rd_T37 l1 x19_2).f3)) ∧ w'.cell? ⟨gb338, 4, none⟩ = some (.int .i64 ((rd_T37 l1 x19_2).f4)) ∧ w'.cell? ⟨gb335, 0, none⟩ = some (.int .i64 a0_0) ∧ w'.cell? ⟨gb335, 1, none⟩ = some (.int .i64 a0_1) ∧ w'.cell? ⟨gb335, 2, none⟩ = some (.slice A0_2 l0_2.length c0_2) ∧ w'.cell? (ad337.add (((ji22)).toNat * 5)) = some (.int .i64 ((rd_T37 l1 (ji22)).f0)) ∧ w'.cell? ⟨(ad337.add (((ji22)).toNat * 5)).block, (ad337.add (((ji22)).toNat * 5)).off + 1, none⟩ = some (.int .i64 ((rd_T37 l1 (ji22)).f1)) ∧ w'.cell? ⟨(ad337.add (((ji22)).toNat * 5)).block, (ad337.add (((ji22)).toNat * 5)).off + 2, none⟩ = some (.int .i64 ((rd_T37 l1 (ji22)).f2)) ∧ w'.cell? ⟨(ad337.add (((ji22)).toNat * 5)).block, (ad337.add (((ji22)).toNat * 5)).off + 3, none⟩ = some (.bool ((rd_T37 l1 (ji22)).f3)) ∧ w'.cell? ⟨(ad337.add (((ji22)).toNat * 5)).block, (ad337.add (((ji22)).toNat * 5)).off + 4, none⟩ = some (.int .i64 ((rd_T37 l1 (ji22)).f4))) (ds := []) #[false, false, false, false, false, false, false, false, false, false, false, false, false, false, false, false, false, false, false, false, false, false, false, false, false, false, false, false, false, false, false] (by kernel_rfl) rfl rfl ⟨(blk_cell BK338.out 0).trans rfl, (blk_cell BK338.out 1).trans rfl, (blk_cell BK338.out 2).trans rfl, (blk_cell BK338.out 3).trans rfl, (blk_cell BK338.out 4).trans rfl, (blk_cell BK335.out 0).trans rfl, (blk_cell BK335.out 1).trans rfl, (blk_cell BK335.out 2).trans rfl, (cB_ hw340_0), (cB_ hw340_1), (cB_ hw340_2), (cB_ hw340_3), (cB_ hw340_4)⟩ (fun hHeld => ?_); refine with_tabW impl_CrewOk.tab6 impl_CrewOk.bits6 (fun HT_ HW_ => ?_)
  generalize w34.drew = w35 at BK335 BK338 HB hx340_0 hx340_1 hx340_2 hx340_3 hx340_4 hHeld ⊢
  refine pI_ 0 (bqz 31 1) ?_
  refine sI13_ 1 ?_
  refine oI_ 2 26 (bqz 31 7) (fun K hK => ?_)
  refine goes_ Try.func88 (by kernel_rfl) rfl #[.int .i64 ((rd_T37 l1 x19_2).f0), .int .i64 1, .int .i64 99] (by rfl) rfl rfl qz2 ?_
  with_reducible refine (impl_in.calls ((rd_T37 l1 x19_2).f0) 1 99 true _ A19.out).mono ?_
  rintro e w' ⟨rfl, ⟨nd, rfl⟩⟩
  refine ⟨_, rfl, ?_⟩
  refine hK.out _ _ (b5A_ BK338 (b3A_ BK335 ⟨(cB_ hw340_0), (cB_ hw340_1), (cB_ hw340_2), (cB_ hw340_3), (cB_ hw340_4)⟩)) (fun hHeld => ?_)
  clear hK K
  refine nm_ 26 ?_
  refine jI_ 3 ?_
  refine jI_ 4 ?_
  refine jI_ 5 ?_
  refine jI_ 6 ?_
  refine jI_ 7 ?_
  refine jI_ 8 ?_
  refine jI_ 9 ?_
  refine jI_ 10 ?_
  refine jI_ 11 ?_
  refine jI_ 12 ?_
  refine jI_ 14 ?_
  refine sI13_ 13 ?_
  refine sI13_ 15 ?_
  refine jI_ 16 ?_
  refine jI_ 17 ?_
  refine jI_ 18 ?_
  refine jI_ 19 ?_
  refine sI13_ 20 ?_
  refine sI13_ 21 ?_
  refine oI_ 22 46 (bqz 31 8388607) (fun K hK => ?_)
  refine goes_ Try.func65 (by kernel_rfl) rfl #[.agg #[.int .i64 a0_0, .int .i64 a0_1, .slice A0_2 l0_2.length c0_2], .agg #[.int .i64 ((rd_T37 l1 x19_2).f0), .int .i64 ((rd_T37 l1 x19_2).f1), .int .i64 ((rd_T37 l1 x19_2).f2), .bool ((rd_T37 l1 x19_2).f3), .int .i64 ((rd_T37 l1 x19_2).f4)]] (by rfl) rfl rfl qz2 ?_
  with_reducible refine (impl_standsOk.calls k2 a0_0 a0_1 _ _ l0_2 ((rd_T37 l1 x19_2).f0) ((rd_T37 l1 x19_2).f1) ((rd_T37 l1 x19_2).f2) ((rd_T37 l1 x19_2).f3) ((rd_T37 l1 x19_2).f4) false _ ?side1 ?side2 A28.out).mono ?_
  (case side1 => exact qz31)
  (case side2 => exact qz28)
  rintro e w36 ⟨rfl, hb⟩
  refine ⟨_, rfl, ?_⟩
  replace BK335 := bB_ BK335 hb
  replace BK338 := bB_ BK338 hb
  replace HB := bS_ hb
  (try clear hb)
  (try clear hb2)
  (try clear hk)
  (try clear hi)
  refine hK.out _ _ (b5A_ BK338 (b3A_ BK335 ⟨(cB_ hw340_0), (cB_ hw340_1), (cB_ hw340_2), (cB_ hw340_3), (cB_ hw340_4)⟩)) (fun hHeld => ?_)
  clear hK K
  refine nm_ 46 ?_
  refine pI_ 23 (bqz 31 16777215) ?_
  refine jI_ 24 ?_
  refine jI_ 25 ?_
  refine jU_ 26 ?_
  refine jU_ 27 ?_
  refine jU_ 28 ?_
  refine jU_ 29 ?_
  refine jI_ 30 ?_
  refine dN_ ?_
  try go_wp2
  go_meet
  case rel => exact ⟨_, (true), qz7, H', ⟨by have := HJ2.out; have := HK2.out; first | omega | exact Nat.le_refl _⟩, ⟨bk_ BK335.out⟩, ⟨bk_ BK338.out⟩, ⟨qz1⟩⟩
  }
  }
  }
  {
  (first | rw [c21b0] | (simp only [i64_w, i32_w]; rw [c21b0]) | rw [@decide_eq_false _ _ (of_decide_eq_false c21b0)] | rw [@decide_eq_false _ _ (of_decide_eq_false c21b1)] | skip)
  replace H := Option.bind_eq_some_iff.mp H
  obtain ⟨t343, A370, H⟩ := H
  have A37 := aM A370
  clear A370
  replace H := iB_ H
  rcases H with ⟨rfl, H⟩ | ⟨rfl, H⟩
  {
  replace H := Option.bind_eq_some_iff.mp H
  obtain ⟨t344, A390, H⟩ := H
  have A39 := aM A390
  clear A390
  have H' := aM H
  clear H
  try go_wp2
  generalize hq_ : (((((w16.setCell ⟨gb338, 0, none⟩ (.int .i64 ((rd_T37 l1 x19_2).f0))).setCell ⟨gb338, 1, none⟩ (.int .i64 ((rd_T37 l1 x19_2).f1))).setCell ⟨gb338, 2, none⟩ (.int .i64 ((rd_T37 l1 x19_2).f2))).setCell ⟨gb338, 3, none⟩ (.bool ((rd_T37 l1 x19_2).f3))).setCell ⟨gb338, 4, none⟩ (.int .i64 ((rd_T37 l1 x19_2).f4))) = w40
  replace BK335 := bqo_ hq_ BK335
  replace BK338 := bq5_ hq_ BK338
  replace HB : Aside0 (Below w.heap.size w w40) := ⟨by rw [← hq_]; exact qz1⟩
  clear hq_
  replace BK335 := aM (blk_drew BK335.out)
  replace BK338 := aM (blk_drew BK338.out)
  replace HB := aM (below_drew1 HB.out)
  refine start_ (n := 31) (S := fun w' => w'.cell? ⟨gb338, 0, none⟩ = some (.int .i64 ((rd_T37 l1 x19_2).f0)) ∧ w'.cell? ⟨gb338, 1, none⟩ = some (.int .i64 ((rd_T37 l1 x19_2).f1)) ∧ w'.cell? ⟨gb338, 2, none⟩ = some (.int .i64 ((rd_T37 l1 x19_2).f2)) ∧ w'.cell? ⟨gb338, 3, none⟩ = some (.bool ((rd_T37 l1 x19_2).f3)) ∧ w'.cell? ⟨gb338, 4, none⟩ = some (.int .i64 ((rd_T37 l1 x19_2).f4)) ∧ w'.cell? ⟨gb335, 0, none⟩ = some (.int .i64 a0_0) ∧ w'.cell? ⟨gb335, 1, none⟩ = some (.int .i64 a0_1) ∧ w'.cell? ⟨gb335, 2, none⟩ = some (.slice A0_2 l0_2.length c0_2)) (ds := []) #[false, false, false, false, false, false, false, false, false, false, false, false, false, false, false, false, false, false, false, false, false, false, false, false, false, false, false, false, false, false, false] (by kernel_rfl) rfl rfl ⟨(blk_cell BK338.out 0).trans rfl, (blk_cell BK338.out 1).trans rfl, (blk_cell BK338.out 2).trans rfl, (blk_cell BK338.out 3).trans rfl, (blk_cell BK338.out 4).trans rfl, (blk_cell BK335.out 0).trans rfl, (blk_cell BK335.out 1).trans rfl, (blk_cell BK335.out 2).trans rfl⟩ (fun hHeld => ?_); refine with_tabW impl_CrewOk.tab6 impl_CrewOk.bits6 (fun HT_ HW_ => ?_)
  generalize w40.drew = w41 at BK335 BK338 HB hHeld ⊢
  refine pI_ 0 (bqz 31 1) ?_
  refine sI8_ 1 ?_
  refine oI_ 2 26 (bqz 31 7) (fun K hK => ?_)
  refine goes_ Try.func88 (by kernel_rfl) rfl #[.int .i64 ((rd_T37 l1 x19_2).f0), .int .i64 1, .int .i64 99] (by rfl) rfl rfl qz2 ?_
  with_reducible refine (impl_in.calls ((rd_T37 l1 x19_2).f0) 1 99 true _ A19.out).mono ?_
  rintro e w' ⟨rfl, ⟨nd, rfl⟩⟩
  refine ⟨_, rfl, ?_⟩
  refine hK.out _ _ (b5A_ BK338 ⟨(blk_cell BK335.out 0).trans rfl, (blk_cell BK335.out 1).trans rfl, (blk_cell BK335.out 2).trans rfl⟩) (fun hHeld => ?_)
  clear hK K
  refine nm_ 26 ?_
  refine jI_ 3 ?_
  refine jI_ 4 ?_
  refine jI_ 5 ?_
  refine jI_ 6 ?_
  refine jI_ 7 ?_
  refine jU_ 8 ?_
  refine jU_ 9 ?_
  refine jU_ 10 ?_
  refine jU_ 11 ?_
  refine jU_ 12 ?_
  refine jU_ 13 ?_
  refine jU_ 14 ?_
  refine jU_ 15 ?_
  refine jU_ 16 ?_
  refine jI_ 17 ?_
  refine jI_ 18 ?_
  refine jI_ 19 ?_
  refine sI8_ 20 ?_
  refine sI8_ 21 ?_
  refine oI_ 22 46 (bqz 31 8388607) (fun K hK => ?_)
  refine goes_ Try.func65 (by kernel_rfl) rfl #[.agg #[.int .i64 a0_0, .int .i64 a0_1, .slice A0_2 l0_2.length c0_2], .agg #[.int .i64 ((rd_T37 l1 x19_2).f0), .int .i64 ((rd_T37 l1 x19_2).f1), .int .i64 ((rd_T37 l1 x19_2).f2), .bool ((rd_T37 l1 x19_2).f3), .int .i64 ((rd_T37 l1 x19_2).f4)]] (by rfl) rfl rfl qz2 ?_
  with_reducible refine (impl_standsOk.calls k2 a0_0 a0_1 _ _ l0_2 ((rd_T37 l1 x19_2).f0) ((rd_T37 l1 x19_2).f1) ((rd_T37 l1 x19_2).f2) ((rd_T37 l1 x19_2).f3) ((rd_T37 l1 x19_2).f4) true _ ?side1 ?side2 A37.out).mono ?_
  (case side1 => exact qz31)
  (case side2 => exact qz28)
  rintro e w42 ⟨rfl, hb⟩
  refine ⟨_, rfl, ?_⟩
  replace BK335 := bB_ BK335 hb
  replace BK338 := bB_ BK338 hb
  replace HB := bS_ hb
  (try clear hb)
  (try clear hb2)
  (try clear hk)
  (try clear hi)
  refine hK.out _ _ (b5A_ BK338 ⟨(blk_cell BK335.out 0).trans rfl, (blk_cell BK335.out 1).trans rfl, (blk_cell BK335.out 2).trans rfl⟩) (fun hHeld => ?_)
  clear hK K
  refine nm_ 46 ?_
  refine pI_ 23 (bqz 31 16777215) ?_
  refine jI_ 24 ?_
  refine jI_ 25 ?_
  refine jI_ 26 ?_
  refine sI8_ 27 ?_
  refine oI_ 28 52 (bqz 31 536870911) (fun K hK => ?_)
  refine goes_ Try.func88 (by kernel_rfl) rfl #[.int .i64 ((rd_T37 l1 x19_2).f4), .int .i64 0, .int .i64 1000000] (by rfl) rfl rfl qz2 ?_
  with_reducible refine (impl_in.calls ((rd_T37 l1 x19_2).f4) 0 1000000 t344 _ A39.out).mono ?_
  rintro e w' ⟨rfl, ⟨nd, rfl⟩⟩
  refine ⟨_, rfl, ?_⟩
  refine hK.out _ _ (b5A_ BK338 ⟨(blk_cell BK335.out 0).trans rfl, (blk_cell BK335.out 1).trans rfl, (blk_cell BK335.out 2).trans rfl⟩) (fun hHeld => ?_)
  clear hK K
  refine nm_ 52 ?_
  refine jI_ 29 ?_
  refine jI_ 30 ?_
  refine dN_ ?_
  try go_wp2
  go_meet
  case rel => exact ⟨_, (!t344), qz7, H', ⟨by have := HJ2.out; have := HK2.out; first | omega | exact Nat.le_refl _⟩, ⟨bk_ BK335.out⟩, ⟨bk_ BK338.out⟩, ⟨qz1⟩⟩
  }
  {
  have H' := aM H
  clear H
  try go_wp2
  generalize hq_ : (((((w16.setCell ⟨gb338, 0, none⟩ (.int .i64 ((rd_T37 l1 x19_2).f0))).setCell ⟨gb338, 1, none⟩ (.int .i64 ((rd_T37 l1 x19_2).f1))).setCell ⟨gb338, 2, none⟩ (.int .i64 ((rd_T37 l1 x19_2).f2))).setCell ⟨gb338, 3, none⟩ (.bool ((rd_T37 l1 x19_2).f3))).setCell ⟨gb338, 4, none⟩ (.int .i64 ((rd_T37 l1 x19_2).f4))) = w43
  replace BK335 := bqo_ hq_ BK335
  replace BK338 := bq5_ hq_ BK338
  replace HB : Aside0 (Below w.heap.size w w43) := ⟨by rw [← hq_]; exact qz1⟩
  clear hq_
  replace BK335 := aM (blk_drew BK335.out)
  replace BK338 := aM (blk_drew BK338.out)
  replace HB := aM (below_drew1 HB.out)
  refine start_ (n := 31) (S := fun w' => w'.cell? ⟨gb338, 0, none⟩ = some (.int .i64 ((rd_T37 l1 x19_2).f0)) ∧ w'.cell? ⟨gb338, 1, none⟩ = some (.int .i64 ((rd_T37 l1 x19_2).f1)) ∧ w'.cell? ⟨gb338, 2, none⟩ = some (.int .i64 ((rd_T37 l1 x19_2).f2)) ∧ w'.cell? ⟨gb338, 3, none⟩ = some (.bool ((rd_T37 l1 x19_2).f3)) ∧ w'.cell? ⟨gb338, 4, none⟩ = some (.int .i64 ((rd_T37 l1 x19_2).f4)) ∧ w'.cell? ⟨gb335, 0, none⟩ = some (.int .i64 a0_0) ∧ w'.cell? ⟨gb335, 1, none⟩ = some (.int .i64 a0_1) ∧ w'.cell? ⟨gb335, 2, none⟩ = some (.slice A0_2 l0_2.length c0_2)) (ds := []) #[false, false, false, false, false, false, false, false, false, false, false, false, false, false, false, false, false, false, false, false, false, false, false, false, false, false, false, false, false, false, false] (by kernel_rfl) rfl rfl ⟨(blk_cell BK338.out 0).trans rfl, (blk_cell BK338.out 1).trans rfl, (blk_cell BK338.out 2).trans rfl, (blk_cell BK338.out 3).trans rfl, (blk_cell BK338.out 4).trans rfl, (blk_cell BK335.out 0).trans rfl, (blk_cell BK335.out 1).trans rfl, (blk_cell BK335.out 2).trans rfl⟩ (fun hHeld => ?_); refine with_tabW impl_CrewOk.tab6 impl_CrewOk.bits6 (fun HT_ HW_ => ?_)
  generalize w43.drew = w44 at BK335 BK338 HB hHeld ⊢
  refine pI_ 0 (bqz 31 1) ?_
  refine sI8_ 1 ?_
  refine oI_ 2 26 (bqz 31 7) (fun K hK => ?_)
  refine goes_ Try.func88 (by kernel_rfl) rfl #[.int .i64 ((rd_T37 l1 x19_2).f0), .int .i64 1, .int .i64 99] (by rfl) rfl rfl qz2 ?_
  with_reducible refine (impl_in.calls ((rd_T37 l1 x19_2).f0) 1 99 true _ A19.out).mono ?_
  rintro e w' ⟨rfl, ⟨nd, rfl⟩⟩
  refine ⟨_, rfl, ?_⟩
  refine hK.out _ _ (b5A_ BK338 ⟨(blk_cell BK335.out 0).trans rfl, (blk_cell BK335.out 1).trans rfl, (blk_cell BK335.out 2).trans rfl⟩) (fun hHeld => ?_)
  clear hK K
  refine nm_ 26 ?_
  refine jI_ 3 ?_
  refine jI_ 4 ?_
  refine jI_ 5 ?_
  refine jI_ 6 ?_
  refine jI_ 7 ?_
  refine jU_ 8 ?_
  refine jU_ 9 ?_
  refine jU_ 10 ?_
  refine jU_ 11 ?_
  refine jU_ 12 ?_
  refine jU_ 13 ?_
  refine jU_ 14 ?_
  refine jU_ 15 ?_
  refine jU_ 16 ?_
  refine jI_ 17 ?_
  refine jI_ 18 ?_
  refine jI_ 19 ?_
  refine sI8_ 20 ?_
  refine sI8_ 21 ?_
  refine oI_ 22 46 (bqz 31 8388607) (fun K hK => ?_)
  refine goes_ Try.func65 (by kernel_rfl) rfl #[.agg #[.int .i64 a0_0, .int .i64 a0_1, .slice A0_2 l0_2.length c0_2], .agg #[.int .i64 ((rd_T37 l1 x19_2).f0), .int .i64 ((rd_T37 l1 x19_2).f1), .int .i64 ((rd_T37 l1 x19_2).f2), .bool ((rd_T37 l1 x19_2).f3), .int .i64 ((rd_T37 l1 x19_2).f4)]] (by rfl) rfl rfl qz2 ?_
  with_reducible refine (impl_standsOk.calls k2 a0_0 a0_1 _ _ l0_2 ((rd_T37 l1 x19_2).f0) ((rd_T37 l1 x19_2).f1) ((rd_T37 l1 x19_2).f2) ((rd_T37 l1 x19_2).f3) ((rd_T37 l1 x19_2).f4) false _ ?side1 ?side2 A37.out).mono ?_
  (case side1 => exact qz31)
  (case side2 => exact qz28)
  rintro e w45 ⟨rfl, hb⟩
  refine ⟨_, rfl, ?_⟩
  replace BK335 := bB_ BK335 hb
  replace BK338 := bB_ BK338 hb
  replace HB := bS_ hb
  (try clear hb)
  (try clear hb2)
  (try clear hk)
  (try clear hi)
  refine hK.out _ _ (b5A_ BK338 ⟨(blk_cell BK335.out 0).trans rfl, (blk_cell BK335.out 1).trans rfl, (blk_cell BK335.out 2).trans rfl⟩) (fun hHeld => ?_)
  clear hK K
  refine nm_ 46 ?_
  refine pI_ 23 (bqz 31 16777215) ?_
  refine jI_ 24 ?_
  refine jI_ 25 ?_
  refine jU_ 26 ?_
  refine jU_ 27 ?_
  refine jU_ 28 ?_
  refine jU_ 29 ?_
  refine jI_ 30 ?_
  refine dN_ ?_
  try go_wp2
  go_meet
  case rel => exact ⟨_, (true), qz7, H', ⟨by have := HJ2.out; have := HK2.out; first | omega | exact Nat.le_refl _⟩, ⟨bk_ BK335.out⟩, ⟨bk_ BK338.out⟩, ⟨qz1⟩⟩
  }
  }
  }
  {
  have H' := aM H
  clear H
  try go_wp2
  generalize hq_ : (((((w16.setCell ⟨gb338, 0, none⟩ (.int .i64 ((rd_T37 l1 x19_2).f0))).setCell ⟨gb338, 1, none⟩ (.int .i64 ((rd_T37 l1 x19_2).f1))).setCell ⟨gb338, 2, none⟩ (.int .i64 ((rd_T37 l1 x19_2).f2))).setCell ⟨gb338, 3, none⟩ (.bool ((rd_T37 l1 x19_2).f3))).setCell ⟨gb338, 4, none⟩ (.int .i64 ((rd_T37 l1 x19_2).f4))) = w46
  replace BK335 := bqo_ hq_ BK335
  replace BK338 := bq5_ hq_ BK338
  replace HB : Aside0 (Below w.heap.size w w46) := ⟨by rw [← hq_]; exact qz1⟩
  clear hq_
  replace BK335 := aM (blk_drew BK335.out)
  replace BK338 := aM (blk_drew BK338.out)
  replace HB := aM (below_drew1 HB.out)
  refine start_ (n := 31) (S := fun w' => w'.cell? ⟨gb338, 0, none⟩ = some (.int .i64 ((rd_T37 l1 x19_2).f0)) ∧ w'.cell? ⟨gb338, 1, none⟩ = some (.int .i64 ((rd_T37 l1 x19_2).f1)) ∧ w'.cell? ⟨gb338, 2, none⟩ = some (.int .i64 ((rd_T37 l1 x19_2).f2)) ∧ w'.cell? ⟨gb338, 3, none⟩ = some (.bool ((rd_T37 l1 x19_2).f3)) ∧ w'.cell? ⟨gb338, 4, none⟩ = some (.int .i64 ((rd_T37 l1 x19_2).f4))) (ds := []) #[false, false, false, false, false, false, false, false, false, false, false, false, false, false, false, false, false, false, false, false, false, false, false, false, false, false, false, false, false, false, false] (by kernel_rfl) rfl rfl ⟨(blk_cell BK338.out 0).trans rfl, (blk_cell BK338.out 1).trans rfl, (blk_cell BK338.out 2).trans rfl, (blk_cell BK338.out 3).trans rfl, (blk_cell BK338.out 4).trans rfl⟩ (fun hHeld => ?_); refine with_tabW impl_CrewOk.tab6 impl_CrewOk.bits6 (fun HT_ HW_ => ?_)
  generalize w46.drew = w47 at BK335 BK338 HB hHeld ⊢
  refine pI_ 0 (bqz 31 1) ?_
  refine sI5_ 1 ?_
  refine oI_ 2 26 (bqz 31 7) (fun K hK => ?_)
  refine goes_ Try.func88 (by kernel_rfl) rfl #[.int .i64 ((rd_T37 l1 x19_2).f0), .int .i64 1, .int .i64 99] (by rfl) rfl rfl qz2 ?_
  with_reducible refine (impl_in.calls ((rd_T37 l1 x19_2).f0) 1 99 false _ A19.out).mono ?_
  rintro e w' ⟨rfl, ⟨nd, rfl⟩⟩
  refine ⟨_, rfl, ?_⟩
  refine hK.out _ _ ⟨(blk_cell BK338.out 0).trans rfl, (blk_cell BK338.out 1).trans rfl, (blk_cell BK338.out 2).trans rfl, (blk_cell BK338.out 3).trans rfl, (blk_cell BK338.out 4).trans rfl⟩ (fun hHeld => ?_)
  clear hK K
  refine nm_ 26 ?_
  refine jI_ 3 ?_
  refine jI_ 4 ?_
  refine jU_ 5 ?_
  refine jU_ 6 ?_
  refine jU_ 7 ?_
  refine jU_ 8 ?_
  refine jU_ 9 ?_
  refine jU_ 10 ?_
  refine jU_ 11 ?_
  refine jU_ 12 ?_
  refine jU_ 13 ?_
  refine jU_ 14 ?_
  refine jU_ 15 ?_
  refine jU_ 16 ?_
  refine jU_ 17 ?_
  refine jI_ 18 ?_
  refine jI_ 19 ?_
  refine jU_ 20 ?_
  refine jU_ 21 ?_
  refine jU_ 22 ?_
  refine jU_ 23 ?_
  refine jI_ 24 ?_
  refine jI_ 25 ?_
  refine jU_ 26 ?_
  refine jU_ 27 ?_
  refine jU_ 28 ?_
  refine jU_ 29 ?_
  refine jI_ 30 ?_
  refine dN_ ?_
  try go_wp2
  go_meet
  case rel => exact ⟨_, (true), qz7, H', ⟨by have := HJ2.out; have := HK2.out; first | omega | exact Nat.le_refl _⟩, ⟨bk_ BK335.out⟩, ⟨bk_ BK338.out⟩, ⟨qz1⟩⟩
  }
 case rest =>
 clear HC15
 obtain ⟨kq, x54_14, rfl, HA, HJ14, BK335, BK338, HB⟩ := hcut
 cases kq with
 | zero => exact absurd HA.out (by simp [impl_CrewOk.j2])
 | succ kj14 =>
 have H := HA.out
 clear HA
 simp only [impl_CrewOk.j2] at H
 replace H := iB_ H
 rcases H with ⟨rfl, H⟩ | ⟨rfl, H⟩
 {
 obtain rfl := Option.some.inj H
 go_wp2
 go_ret
 exact ⟨qzw, qz1⟩
 }
 {
 replace H := iN_ H
 obtain ⟨c49, H⟩ := H
 have c49b0 := eq_true c49
 have c49b1 := decide_eq_true c49
 clear c49
 replace H := iN_ H
 obtain ⟨c50, H⟩ := H
 have c50b0 := eq_true c50
 have c50b1 := decide_eq_true c50
 clear c50
 obtain ⟨y345, hy345⟩ : ∃ y_ : List (S37), y_ = (l1.take (x19_2 : Int).toNat) := ⟨_, rfl⟩
 replace H := yB_ hy345 H
 have Ny345 := aM hy345
 clear hy345
 have H' := aM H
 clear H
 have q51 : (x19_2 : Int) ≤ ((l1.length : Int) : Int) := dt_
 obtain ⟨i051, hi051, _, hsz51, _⟩ := info_parts info37
 have hroom51 : l1.length ≤ c1 := HC1.out
 have hC51 : Kd.C k37 _ (some ad337) l1.length l1 := HR1.out
 have hcut51 := cut_to (P := Try.prog) 26 37 .i64 Try.underlying26 hi051 (some ad337) l1.length c1 x19_2 (dt_) q51 hroom51
 have hr51 := Kd.C_take (m := (x19_2 : Int).toNat) hC51 (by omega)
 have hy51 : y345.length = (x19_2 : Int).toNat := (by rw [Ny345.out, List.length_take]; omega)
 rw [← Ny345.out] at hr51
 rw [← hy51] at hcut51
 have HR348 := aM hr51
 have HC348 := aM (show y345.length ≤ c1 from by omega)
 clear hr51 hC51 hroom51 hi051 hsz51
 have KY51 := aM hy51
 clear hy51
 replace q51 := eq_true q51
 go_wp2
 go_loopg [59] kj14 (fun kq v59 w' => ∃ (x59_4 : Int), v59 = .int .i64 x59_4 ∧ Aside0 (impl_CrewOk.l1 kq l1 l1 (l1.length : Int) x19_2 y345 (y345.length : Int) x59_4 a0_0 a0_1 l0_2 ((rd_T37 l1 x19_2).f0) ((rd_T37 l1 x19_2).f1) ((rd_T37 l1 x19_2).f2) ((rd_T37 l1 x19_2).f3) ((rd_T37 l1 x19_2).f4) = some r) ∧ Aside0 (kq ≤ kj14) ∧ Aside0 (w'.heap[gb335]? = some (.cells #[.int .i64 a0_0, .int .i64 a0_1, (.slice A0_2 l0_2.length c0_2)] 43 (0, 0))) ∧ Aside0 (w'.heap[gb338]? = some (.cells #[.int .i64 ((rd_T37 l1 x19_2).f0), .int .i64 ((rd_T37 l1 x19_2).f1), .int .i64 ((rd_T37 l1 x19_2).f2), .bool ((rd_T37 l1 x19_2).f3), .int .i64 ((rd_T37 l1 x19_2).f4)] 37 (0, 0))) ∧ Aside0 (Below w.heap.size w w'))
 case atStart => exact ⟨(0), qz7, H', ⟨Nat.le_refl _⟩, ⟨bk_ BK335.out⟩, ⟨bk_ BK338.out⟩, ⟨qz1⟩⟩
 case round =>
 clear H'
 try clear c1
 try clear c48
 try clear c49
 try clear c49b0
 try clear c49b1
 try clear c50
 try clear c50b0
 try clear c50b1
 try clear q51
 obtain ⟨x59_4, rfl, HA, HK4, BK335, BK338, HB⟩ := hrel
 cases gk with
 | zero => exact absurd HA.out (by simp [impl_CrewOk.l1])
 | succ k4 =>
 have H := HA.out
 clear HA
 simp only [impl_CrewOk.l1] at H
 replace H := iE_ H
 rcases H with ⟨c52b0, H⟩ | ⟨c52b0, H⟩
 {
 replace H := iD_ H
 obtain ⟨c53b0, H⟩ := H
 replace H := iD_ H
 obtain ⟨c54b0, H⟩ := H
 replace H := iQ_ H
 rcases H with ⟨c55b0, c55b1, H⟩ | ⟨c55, c55b0, c55b1, H⟩
 {
 obtain rfl := Option.some.inj H
 have p349 : (0 ≤ (x59_4 : Int)) = True := et_
 have q349 : (x59_4 < (y345.length : Int)) = True := et_
 obtain ⟨ad349, e349, hx349_0, hx349_1, hx349_2, hx349_3, hx349_4⟩ := tC5_ (at_T37 HR348.out x59_4 dt_ dt_)
 obtain rfl := iJ_ e349
 go_wp2_with (first | ((with_reducible refine gate_dst (N := 8) rfl ?_); (try (refine gate_guard (by rfl) ?_; dsimp only)); refine bx_ 8 #[.int .i64 0, .int .i64 0, .int .i64 0, .bool false, .int .i64 0] 37 ?_; intro gb350 hg w56 hbox hb; have BK350 := aM (hbox); have GW350 := aM (bz_ w hg qz1); have GE350 := GW350; replace HB := bS_ hb; obtain ⟨NB335_350, NB350_335⟩ := nb_ hg (bk_ BK335.out); replace BK335 := bB_ BK335 hb; obtain ⟨NB338_350, NB350_338⟩ := nb_ hg (bk_ BK338.out); replace BK338 := bB_ BK338 hb; clear hb hbox hg; have hnb57 := NB350_335.out; have hnc57 := NB335_350.out; have hnb58 := NB350_338.out; have hnc58 := NB338_350.out; obtain ⟨hcz59_0, hcz59_1, hcz59_2, hcz59_3, hcz59_4, hfz59_0, hfz59_1, hfz59_2, hfz59_3, hfz59_4⟩ := b10_ BK350.out; have hnb60 := NB338_335.out; have hnc60 := NB335_338.out; obtain ⟨hcz61_0, hcz61_1, hcz61_2, hcz61_3, hcz61_4, hfz61_0, hfz61_1, hfz61_2, hfz61_3, hfz61_4⟩ := b10_ BK338.out))
 go_ret
 exact ⟨qzw, qz1⟩
 }
 {
 have H' := aM H
 clear H
 have p349 : (0 ≤ (x59_4 : Int)) = True := et_
 have q349 : (x59_4 < (y345.length : Int)) = True := et_
 obtain ⟨ad349, e349, hx349_0, hx349_1, hx349_2, hx349_3, hx349_4⟩ := tC5_ (at_T37 HR348.out x59_4 dt_ dt_)
 obtain rfl := iJ_ e349
 go_wp2_with (first | ((with_reducible refine gate_dst (N := 8) rfl ?_); (try (refine gate_guard (by rfl) ?_; dsimp only)); refine bx_ 8 #[.int .i64 0, .int .i64 0, .int .i64 0, .bool false, .int .i64 0] 37 ?_; intro gb350 hg w62 hbox hb; have BK350 := aM (hbox); have GW350 := aM (bz_ w hg qz1); have GE350 := GW350; replace HB := bS_ hb; obtain ⟨NB335_350, NB350_335⟩ := nb_ hg (bk_ BK335.out); replace BK335 := bB_ BK335 hb; obtain ⟨NB338_350, NB350_338⟩ := nb_ hg (bk_ BK338.out); replace BK338 := bB_ BK338 hb; clear hb hbox hg; have hnb63 := NB350_335.out; have hnc63 := NB335_350.out; have hnb64 := NB350_338.out; have hnc64 := NB338_350.out; obtain ⟨hcz65_0, hcz65_1, hcz65_2, hcz65_3, hcz65_4, hfz65_0, hfz65_1, hfz65_2, hfz65_3, hfz65_4⟩ := b10_ BK350.out; have hnb66 := NB338_335.out; have hnc66 := NB335_338.out; obtain ⟨hcz67_0, hcz67_1, hcz67_2, hcz67_3, hcz67_4, hfz67_0, hfz67_1, hfz67_2, hfz67_3, hfz67_4⟩ := b10_ BK338.out))
 go_roundg k4
 case measure => have := HJ2.out; have := HK2.out; have := HJ14.out; have := HK4.out; omega
 case rel => exact ⟨(wrap64 (x59_4 + 1)), qz7, H', ⟨by have := HJ2.out; have := HK2.out; have := HJ14.out; have := HK4.out; omega⟩, ⟨by (with_reducible repeat (first | refine blk_drewN ?_ _ | refine blk_drew ?_ | refine blk_alloc ?_ _)); refine blk_far ?_ NB335_350.out _; (with_reducible repeat (first | refine blk_drewN ?_ _ | refine blk_drew ?_ | refine blk_alloc ?_ _)); refine blk_far ?_ NB335_350.out _; (with_reducible repeat (first | refine blk_drewN ?_ _ | refine blk_drew ?_ | refine blk_alloc ?_ _)); refine blk_far ?_ NB335_350.out _; (with_reducible repeat (first | refine blk_drewN ?_ _ | refine blk_drew ?_ | refine blk_alloc ?_ _)); refine blk_far ?_ NB335_350.out _; (with_reducible repeat (first | refine blk_drewN ?_ _ | refine blk_drew ?_ | refine blk_alloc ?_ _)); refine blk_far ?_ NB335_350.out _; exact bk_ BK335.out⟩, ⟨by (with_reducible repeat (first | refine blk_drewN ?_ _ | refine blk_drew ?_ | refine blk_alloc ?_ _)); refine blk_far ?_ NB338_350.out _; (with_reducible repeat (first | refine blk_drewN ?_ _ | refine blk_drew ?_ | refine blk_alloc ?_ _)); refine blk_far ?_ NB338_350.out _; (with_reducible repeat (first | refine blk_drewN ?_ _ | refine blk_drew ?_ | refine blk_alloc ?_ _)); refine blk_far ?_ NB338_350.out _; (with_reducible repeat (first | refine blk_drewN ?_ _ | refine blk_drew ?_ | refine blk_alloc ?_ _)); refine blk_far ?_ NB338_350.out _; (with_reducible repeat (first | refine blk_drewN ?_ _ | refine blk_drew ?_ | refine blk_alloc ?_ _)); refine blk_far ?_ NB338_350.out _; exact bk_ BK338.out⟩, ⟨qz1⟩⟩
 }
 }
 {
 have H' := aM H
 clear H
 go_wp2
 go_roundg k4
 case measure => have := HJ2.out; have := HK2.out; have := HJ14.out; have := HK4.out; omega
 case rel => exact ⟨(wrap64 (x19_2 + 1)), qz7, H', ⟨by have := HJ2.out; have := HK2.out; have := HJ14.out; have := HK4.out; omega⟩, ⟨bk_ BK335.out⟩, ⟨qz1⟩⟩
 }
 }
 }
 {
 obtain rfl := Option.some.inj H
 go_wp2
 go_ret
 exact ⟨qzw, qz1⟩
 }
 }
/-! ### impl_same: function 78 -/
def impl_same.l0 : Nat → List Int → List Int → Int → Int → Option (Bool)
 | 0, _, _, _, _ => none
 | k + 1, x0, x5, x6, x7 => if x7 < x6 then (if 0 ≤ x7 then (if x7 < (x5.length : Int) then (if x7 ≤ (x0.length : Int) then ((impl_hasInt.f k (x0.take (x7 : Int).toNat) (rd x5 x7)).bind fun t353 => (if t353 = true then (some true) else (impl_same.l0 k x0 x5 x6 (wrap64 (x7 + 1))))) else (none)) else (none)) else (none)) else (some false)
def impl_same.f (k : Nat) (l0 : List Int) : Option (Bool) := impl_same.l0 k l0 l0 (l0.length : Int) 0
theorem impl_same.mono_l : ∀ k, (∀ y0 y1 y2 y3, LeO (impl_same.l0 k y0 y1 y2 y3) (impl_same.l0 (k + 1) y0 y1 y2 y3))
 | 0 => fun _ _ _ _ r h => by simp [impl_same.l0] at h
 | k + 1 => by
  have ih0 := impl_same.mono_l k
  {
  intro y0 y1 y2 y3
  unfold impl_same.l0
  have j0 := @impl_hasInt.mono
  exact qL
  }
theorem impl_same.mono : ∀ a0 k, LeO (impl_same.f k a0) (impl_same.f (k + 1) a0) := by
 intro a0 k
 have ih0 := impl_same.mono_l k
 unfold impl_same.f
 have j0 := @impl_hasInt.mono
 exact qL
theorem impl_same.calls (k : Nat) (A0 : Option Addr) (c0 : Nat) (l0 : List Int) (r : Bool) (w : World) (hr0 : Kd.C (Kd.int .i64) w A0 l0.length l0) (hc0 : l0.length ≤ c0) (h : impl_same.f k l0 = some r) :
  Calls Try.prog 78 #[.slice A0 l0.length c0] w fun e w' => e = .returned (.bool r) ∧ Drawn0 w w' := by
 have HR0 := aM hr0
 have HC0 := aM hc0
 clear hr0 hc0
 unfold impl_same.f at h
 have H := h
 clear h
 have H' := aM H
 clear H
 go_enter Try.func78, Try.ntmps78
 go_wp2
 go_loopg [7] k (fun kq v7 w' => ∃ (x7_1 : Int), v7 = .int .i64 x7_1 ∧ Aside0 (impl_same.l0 kq l0 l0 (l0.length : Int) x7_1 = some r) ∧ Aside0 (kq ≤ k) ∧ Drawn0 w w')
 case atStart => exact ⟨(0), qz7, H', ⟨Nat.le_refl _⟩, by repeat (first | exact Drawn0.refl _ | apply Drawn0.step)⟩
 case round =>
 clear H'
 obtain ⟨x7_1, rfl, HA, HK1, ⟨m1, rfl⟩⟩ := hrel
 cases gk with
 | zero => exact absurd HA.out (by simp [impl_same.l0])
 | succ k1 =>
 have H := HA.out
 clear HA
 simp only [impl_same.l0] at H
 replace H := iE_ H
 rcases H with ⟨c2b0, H⟩ | ⟨c2b0, H⟩
 {
 replace H := iD_ H
 obtain ⟨c3b0, H⟩ := H
 replace H := iD_ H
 obtain ⟨c4b0, H⟩ := H
 have c5b0 := eq_true (dt_ : 0 ≤ x7_1)
 replace H := iN_ H
 obtain ⟨c6, H⟩ := H
 have c6b0 := eq_true c6
 have c6b1 := decide_eq_true c6
 clear c6
 replace H := Option.bind_eq_some_iff.mp H
 obtain ⟨t353, A70, H⟩ := H
 have A7 := aM A70
 clear A70
 replace H := iB_ H
 rcases H with ⟨rfl, H⟩ | ⟨rfl, H⟩
 {
 obtain rfl := Option.some.inj H
 have p351 : (0 ≤ (x7_1 : Int)) = True := et_
 have q351 : (x7_1 < (l0.length : Int)) = True := et_
 obtain ⟨ad351, e351, hx351_0⟩ := Kd.at_int HR0.out x7_1 dt_ dt_
 cases e351
 obtain ⟨i09, hi09, _, hsz9, _⟩ := info_parts info3
 obtain ⟨hcut9, hA9, hC9⟩ := print_take_of (P := Try.prog) (Value.int .i64) 0 24 3 .i64 Try.underlying24 hi09 hsz9 (some ad351) c0 l0 x7_1 (dt_) (dt_) HC0.out
 have HR352 := aM (Kd.C_of_reads (h1 := fun _ => rfl) (hA9 _ (Kd.reads_of_C HR0.out)))
 have HC352 := aM hC9
 clear hA9 hC9 hi09 hsz9
 go_wp2_with (first | ((with_reducible refine gate_callee (f := 67) rfl ?_); refine goesL_ (some 16) rfl rfl Try.func67 (by kernel_rfl) rfl #[.slice (some ad351) (l0.take (x7_1 : Int).toNat).length c0, .int .i64 (rd l0 x7_1)] rfl (by (try simp only [List.map_toArray, List.map_cons, List.map_nil]); first | done | (rw [show (l0.take (x7_1 : Int).toNat).length = x7_1.toNat from (by rw [List.length_take]; have h_ : (x7_1 : Int) ≤ (l0.length : Int) := dt_; omega)] <;> rfl) | rfl | (simp only [List.length_drop, List.length_take]; rfl)) ?_; (with_reducible refine (impl_hasInt.calls k1 _ _ (l0.take (x7_1 : Int).toNat) (rd l0 x7_1) true _ ?side1 ?side2 A7.out).mono ?_); (case side1 => repeat (first | exact HR352.out | (with_reducible refine Kd.C_alloc ?_ _) | (with_reducible refine Kd.C_drewN ?_ _) | (with_reducible refine Kd.C_drew ?_))); (case side2 => exact HC352.out); rintro e w' ⟨rfl, ⟨nd, rfl⟩⟩; refine ⟨_, rfl, ?_⟩))
 go_ret
 exact ⟨by first | rfl | (simp; done) | (simp [*]; done), by repeat (first | exact Drawn0.refl _ | apply Drawn0.step)⟩
 }
 {
 have H' := aM H
 clear H
 have p351 : (0 ≤ (x7_1 : Int)) = True := et_
 have q351 : (x7_1 < (l0.length : Int)) = True := et_
 obtain ⟨ad351, e351, hx351_0⟩ := Kd.at_int HR0.out x7_1 dt_ dt_
 cases e351
 obtain ⟨i010, hi010, _, hsz10, _⟩ := info_parts info3
 obtain ⟨hcut10, hA10, hC10⟩ := print_take_of (P := Try.prog) (Value.int .i64) 0 24 3 .i64 Try.underlying24 hi010 hsz10 (some ad351) c0 l0 x7_1 (dt_) (dt_) HC0.out
 have HR352 := aM (Kd.C_of_reads (h1 := fun _ => rfl) (hA10 _ (Kd.reads_of_C HR0.out)))
 have HC352 := aM hC10
 clear hA10 hC10 hi010 hsz10
 go_wp2_with (first | ((with_reducible refine gate_callee (f := 67) rfl ?_); refine goesL_ (some 16) rfl rfl Try.func67 (by kernel_rfl) rfl #[.slice (some ad351) (l0.take (x7_1 : Int).toNat).length c0, .int .i64 (rd l0 x7_1)] rfl (by (try simp only [List.map_toArray, List.map_cons, List.map_nil]); first | done | (rw [show (l0.take (x7_1 : Int).toNat).length = x7_1.toNat from (by rw [List.length_take]; have h_ : (x7_1 : Int) ≤ (l0.length : Int) := dt_; omega)] <;> rfl) | rfl | (simp only [List.length_drop, List.length_take]; rfl)) ?_; (with_reducible refine (impl_hasInt.calls k1 _ _ (l0.take (x7_1 : Int).toNat) (rd l0 x7_1) false _ ?side1 ?side2 A7.out).mono ?_); (case side1 => repeat (first | exact HR352.out | (with_reducible refine Kd.C_alloc ?_ _) | (with_reducible refine Kd.C_drewN ?_ _) | (with_reducible refine Kd.C_drew ?_))); (case side2 => exact HC352.out); rintro e w' ⟨rfl, ⟨nd, rfl⟩⟩; refine ⟨_, rfl, ?_⟩))
 go_roundg k1
 case measure => have := HK1.out; omega
 case rel => exact ⟨(wrap64 (x7_1 + 1)), qz7, H', ⟨by have := HK1.out; omega⟩, by repeat (first | exact Drawn0.refl _ | apply Drawn0.step)⟩
 }
 }
 {
 obtain rfl := Option.some.inj H
 go_wp2
 go_ret
 exact ⟨by first | rfl | (simp; done) | (simp [*]; done), by repeat (first | exact Drawn0.refl _ | apply Drawn0.step)⟩
 }
/-! ### impl_swaps: function 79 -/
mutual
def impl_swaps.l0 : Nat → List (S37) → List Int → List (S37) → Int → Int → Option (Bool)
 | 0, _, _, _, _, _ => none
 | k + 1, x0, x1, x9, x10, x11 => if x11 < x10 then (if 0 ≤ x11 then (if x11 < (x9.length : Int) then (if x11 ≤ (x0.length : Int) then ((some (x0.take (x11 : Int).toNat : List (S37))).bind fun y356 => (impl_swaps.l1 k x0 x1 x11 x9 x10 x11 y356 (y356.length : Int) 0 ((rd_T37 x9 x11).f0) ((rd_T37 x9 x11).f1) ((rd_T37 x9 x11).f2) ((rd_T37 x9 x11).f3) ((rd_T37 x9 x11).f4))) else (none)) else (none)) else (none)) else (some false)
def impl_swaps.l1 : Nat → List (S37) → List Int → Int → List (S37) → Int → Int → List (S37) → Int → Int → Int → Int → Int → Bool → Int → Option (Bool)
 | 0, _, _, _, _, _, _, _, _, _, _, _, _, _, _ => none
 | k + 1, x0, x1, x5, x9, x10, x11, x18, x19, x20, x356000, x356001, x356002, x356003, x356004 => if x20 < x19 then (if 0 ≤ x20 then (if x20 < (x18.length : Int) then (if 0 ≤ x5 then (if x5 < (x1.length : Int) then (if (rd x1 x5) = ((rd_T37 x18 x20).f1) then (if x20 < (x1.length : Int) then (if (rd x1 x20) = x356001 then (some true) else (impl_swaps.l1 k x0 x1 x5 x9 x10 x11 x18 x19 (wrap64 (x20 + 1)) x356000 x356001 x356002 x356003 x356004)) else (none)) else (impl_swaps.l1 k x0 x1 x5 x9 x10 x11 x18 x19 (wrap64 (x20 + 1)) x356000 x356001 x356002 x356003 x356004)) else (none)) else (none)) else (none)) else (none)) else (impl_swaps.l0 k x0 x1 x9 x10 (wrap64 (x11 + 1)))
end
def impl_swaps.f (k : Nat) (l0 : List (S37)) (l1 : List Int) : Option (Bool) := impl_swaps.l0 k l0 l1 l0 (l0.length : Int) 0
theorem impl_swaps.mono_l : ∀ k, (∀ y0 y1 y2 y3 y4, LeO (impl_swaps.l0 k y0 y1 y2 y3 y4) (impl_swaps.l0 (k + 1) y0 y1 y2 y3 y4)) ∧ (∀ y0 y1 y2 y3 y4 y5 y6 y7 y8 y9 y10 y11 y12 y13, LeO (impl_swaps.l1 k y0 y1 y2 y3 y4 y5 y6 y7 y8 y9 y10 y11 y12 y13) (impl_swaps.l1 (k + 1) y0 y1 y2 y3 y4 y5 y6 y7 y8 y9 y10 y11 y12 y13))
 | 0 => ⟨fun _ _ _ _ _ r h => by simp [impl_swaps.l0] at h, fun _ _ _ _ _ _ _ _ _ _ _ _ _ _ r h => by simp [impl_swaps.l1] at h⟩
 | k + 1 => by
  obtain ⟨ih0, ih1⟩ := impl_swaps.mono_l k
  refine ⟨?_, ?_⟩
  {
  intro y0 y1 y2 y3 y4
  unfold impl_swaps.l0
  exact qL
  }
  {
  intro y0 y1 y2 y3 y4 y5 y6 y7 y8 y9 y10 y11 y12 y13
  unfold impl_swaps.l1
  exact qL
  }
theorem impl_swaps.mono : ∀ a0 a1 k, LeO (impl_swaps.f k a0 a1) (impl_swaps.f (k + 1) a0 a1) := by
 intro a0 a1 k
 obtain ⟨ih0, ih1⟩ := impl_swaps.mono_l k
 unfold impl_swaps.f
 exact qL
theorem impl_swaps.calls (k : Nat) (A0 : Option Addr) (c0 : Nat) (l0 : List (S37)) (A1 : Option Addr) (c1 : Nat) (l1 : List Int) (r : Bool) (w : World) (hr0 : Kd.C k37 w A0 l0.length l0) (hc0 : l0.length ≤ c0) (hr1 : Kd.C (Kd.int .i64) w A1 l1.length l1) (hc1 : l1.length ≤ c1) (h : impl_swaps.f k l0 l1 = some r) :
  Calls Try.prog 79 #[.slice A0 l0.length c0, .slice A1 l1.length c1] w fun e w' => e = .returned (.bool r) ∧ Below w.heap.size w w' := by
 have hu37 := Try.underlying37
 have HR0 := aM hr0
 have HC0 := aM hc0
 clear hr0 hc0
 have HR1 := aM hr1
 have HC1 := aM hc1
 clear hr1 hc1
 have HB := aM (Below.refl w.heap.size w)
 unfold impl_swaps.f at h
 have H := h
 clear h
 have H' := aM H
 clear H
 go_enter Try.func79, Try.ntmps79
 go_wp2
 repeat (go_quiet (fail); try go_wp2)
 go_loopg [11] k (fun kq v11 w' => ∃ (x11_1 : Int), v11 = .int .i64 x11_1 ∧ Aside0 (impl_swaps.l0 kq l0 l1 l0 (l0.length : Int) x11_1 = some r) ∧ Aside0 (kq ≤ k) ∧ Aside0 (Below w.heap.size w w'))
 case atStart => exact ⟨(0), qz7, H', ⟨Nat.le_refl _⟩, ⟨qz1⟩⟩
 case round =>
 clear H'
 try clear c1
 obtain ⟨x11_1, rfl, HA, HK1, HB⟩ := hrel
 cases gk with
 | zero => exact absurd HA.out (by simp [impl_swaps.l0])
 | succ k1 =>
 have H := HA.out
 clear HA
 simp only [impl_swaps.l0] at H
 replace H := iE_ H
 rcases H with ⟨c3b0, H⟩ | ⟨c3b0, H⟩
 {
 replace H := iD_ H
 obtain ⟨c4b0, H⟩ := H
 replace H := iD_ H
 obtain ⟨c5b0, H⟩ := H
 have c6b0 := eq_true (dt_ : 0 ≤ x11_1)
 replace H := iN_ H
 obtain ⟨c7, H⟩ := H
 have c7b0 := eq_true c7
 have c7b1 := decide_eq_true c7
 clear c7
 obtain ⟨y356, hy356⟩ : ∃ y_ : List (S37), y_ = (l0.take (x11_1 : Int).toNat) := ⟨_, rfl⟩
 replace H := yB_ hy356 H
 have Ny356 := aM hy356
 clear hy356
 have H' := aM H
 clear H
 have p354 : (0 ≤ (x11_1 : Int)) = True := et_
 have q354 : (x11_1 < (l0.length : Int)) = True := et_
 obtain ⟨ad354, e354, hx354_0, hx354_1, hx354_2, hx354_3, hx354_4⟩ := tC5_ (at_T37 HR0.out x11_1 dt_ dt_)
 cases e354
 go_wp2_with (first | ((with_reducible refine gate_dst (N := 6) rfl ?_); refine bx_ 6 #[.int .i64 0, .int .i64 0, .int .i64 0, .bool false, .int .i64 0] 37 ?_; intro gb355 hg w8 hbox hb; have BK355 := aM (hbox); have GW355 := aM (bz_ w hg qz1); have GE355 := GW355; replace HB := bS_ hb; clear hb hbox hg; obtain ⟨hcz9_0, hcz9_1, hcz9_2, hcz9_3, hcz9_4, hfz9_0, hfz9_1, hfz9_2, hfz9_3, hfz9_4⟩ := b10_ BK355.out) | ((with_reducible refine gate_store (t := 37) (p := 6) rfl ?_); (try (rw [drewN_self w8]; generalize hq_ : World.drewN w8 _ = w8; replace BK355 := aM (blk_at hq_ BK355.out); replace HB := aM (below_at hq_ HB.out); clear hq_)); refine store_event (t := 37) (p := 6) (v := ?vo_w10) (w1 := (((((w8.setCell ⟨gb355, 0, none⟩ (.int .i64 ((rd_T37 l0 x11_1).f0))).setCell ⟨gb355, 1, none⟩ (.int .i64 ((rd_T37 l0 x11_1).f1))).setCell ⟨gb355, 2, none⟩ (.int .i64 ((rd_T37 l0 x11_1).f2))).setCell ⟨gb355, 3, none⟩ (.bool ((rd_T37 l0 x11_1).f3))).setCell ⟨gb355, 4, none⟩ (.int .i64 ((rd_T37 l0 x11_1).f4)))) ?hg ?ho ?hn ?hr ?_; (case ho => rfl); (case hg => rfl); (case hn => rfl); (case hr => exact qz9); intro w10 hw; replace BK355 : Aside0 (w10.heap[gb355]? = some (.cells #[.int .i64 ((rd_T37 l0 x11_1).f0), .int .i64 ((rd_T37 l0 x11_1).f1), .int .i64 ((rd_T37 l0 x11_1).f2), .bool ((rd_T37 l0 x11_1).f3), .int .i64 ((rd_T37 l0 x11_1).f4)] 37 (0, 0))) := ⟨(by rw [hw]; exact (by (with_reducible repeat (first | refine blk_drewN ?_ _ | refine blk_drew ?_ | refine blk_alloc ?_ _)); refine blk_put (cs := #[.int .i64 ((rd_T37 l0 x11_1).f0), .int .i64 ((rd_T37 l0 x11_1).f1), .int .i64 ((rd_T37 l0 x11_1).f2), .bool ((rd_T37 l0 x11_1).f3), .int .i64 0]) ?_ 4 _ rfl; (with_reducible repeat (first | refine blk_drewN ?_ _ | refine blk_drew ?_ | refine blk_alloc ?_ _)); refine blk_put (cs := #[.int .i64 ((rd_T37 l0 x11_1).f0), .int .i64 ((rd_T37 l0 x11_1).f1), .int .i64 ((rd_T37 l0 x11_1).f2), .bool false, .int .i64 0]) ?_ 3 _ rfl; (with_reducible repeat (first | refine blk_drewN ?_ _ | refine blk_drew ?_ | refine blk_alloc ?_ _)); refine blk_put (cs := #[.int .i64 ((rd_T37 l0 x11_1).f0), .int .i64 ((rd_T37 l0 x11_1).f1), .int .i64 0, .bool false, .int .i64 0]) ?_ 2 _ rfl; (with_reducible repeat (first | refine blk_drewN ?_ _ | refine blk_drew ?_ | refine blk_alloc ?_ _)); refine blk_put (cs := #[.int .i64 ((rd_T37 l0 x11_1).f0), .int .i64 0, .int .i64 0, .bool false, .int .i64 0]) ?_ 1 _ rfl; (with_reducible repeat (first | refine blk_drewN ?_ _ | refine blk_drew ?_ | refine blk_alloc ?_ _)); refine blk_put (cs := #[.int .i64 0, .int .i64 0, .int .i64 0, .bool false, .int .i64 0]) ?_ 0 _ rfl; exact bk_ BK355.out))⟩; replace HB : Aside0 (Below w.heap.size w w10) := ⟨(by rw [hw]; exact qz1)⟩; clear hw; have q11 : (x11_1 : Int) ≤ ((l0.length : Int) : Int) := dt_; obtain ⟨i011, hi011, _, hsz11, _⟩ := info_parts info37; have hroom11 : l0.length ≤ c0 := HC0.out; have hC11 : Kd.C k37 _ (some ad354) l0.length l0 := HR0.out; have hcut11 := cut_to (P := Try.prog) 26 37 .i64 Try.underlying26 hi011 (some ad354) l0.length c0 x11_1 (dt_) q11 hroom11; have hr11 := Kd.C_take (m := (x11_1 : Int).toNat) hC11 (by omega); have hy11 : y356.length = (x11_1 : Int).toNat := (by rw [Ny356.out, List.length_take]; omega); rw [← Ny356.out] at hr11; rw [← hy11] at hcut11; have HR359 := aM hr11; have HC359 := aM (show y356.length ≤ c0 from by omega); clear hr11 hC11 hroom11 hi011 hsz11; have KY11 := aM hy11; clear hy11; replace q11 := eq_true q11) | go_quiet (fail))
 go_loopg [20] k1 (fun kq v20 w' => ∃ (x20_2 : Int), v20 = .int .i64 x20_2 ∧ Aside0 (impl_swaps.l1 kq l0 l1 x11_1 l0 (l0.length : Int) x11_1 y356 (y356.length : Int) x20_2 ((rd_T37 l0 x11_1).f0) ((rd_T37 l0 x11_1).f1) ((rd_T37 l0 x11_1).f2) ((rd_T37 l0 x11_1).f3) ((rd_T37 l0 x11_1).f4) = some r) ∧ Aside0 (kq ≤ k1) ∧ Aside0 (w'.heap[gb355]? = some (.cells #[.int .i64 ((rd_T37 l0 x11_1).f0), .int .i64 ((rd_T37 l0 x11_1).f1), .int .i64 ((rd_T37 l0 x11_1).f2), .bool ((rd_T37 l0 x11_1).f3), .int .i64 ((rd_T37 l0 x11_1).f4)] 37 (0, 0))) ∧ Aside0 (Below w.heap.size w w'))
 case atStart => exact ⟨(0), qz7, H', ⟨Nat.le_refl _⟩, ⟨bk_ BK355.out⟩, ⟨qz1⟩⟩
 case round =>
 clear H'
 try clear c1
 try clear c3
 try clear c3b0
 try clear c4
 try clear c4b0
 try clear c5
 try clear c5b0
 try clear c6b0
 try clear c7
 try clear c7b0
 try clear c7b1
 try clear q11
 try clear hcz9_0 hcz9_1 hcz9_2 hcz9_3 hcz9_4 hfz9_0 hfz9_1 hfz9_2 hfz9_3 hfz9_4
 try clear hx354_0
 try clear hx354_1
 try clear hx354_2
 try clear hx354_3
 try clear hx354_4
 try clear p354
 try clear q354
 obtain ⟨x20_2, rfl, HA, HK2, BK355, HB⟩ := hrel
 cases gk with
 | zero => exact absurd HA.out (by simp [impl_swaps.l1])
 | succ k2 =>
 have H := HA.out
 clear HA
 simp only [impl_swaps.l1] at H
 replace H := iE_ H
 rcases H with ⟨c12b0, H⟩ | ⟨c12b0, H⟩
 {
 replace H := iD_ H
 obtain ⟨c13b0, H⟩ := H
 replace H := iD_ H
 obtain ⟨c14b0, H⟩ := H
 replace H := iD_ H
 obtain ⟨c15b0, H⟩ := H
 replace H := iD_ H
 obtain ⟨c16b0, H⟩ := H
 replace H := iQ_ H
 rcases H with ⟨c17b0, c17b1, H⟩ | ⟨c17, c17b0, c17b1, H⟩
 {
 replace H := iD_ H
 obtain ⟨c18b0, H⟩ := H
 replace H := iQ_ H
 rcases H with ⟨c19b0, c19b1, H⟩ | ⟨c19, c19b0, c19b1, H⟩
 {
 obtain rfl := Option.some.inj H
 have p360 : (0 ≤ (x20_2 : Int)) = True := et_
 have q360 : (x20_2 < (y356.length : Int)) = True := et_
 obtain ⟨ad360, e360, hx360_0, hx360_1, hx360_2, hx360_3, hx360_4⟩ := tC5_ (at_T37 HR359.out x20_2 dt_ dt_)
 obtain rfl := iJ_ e360
 go_wp2_with (first | ((with_reducible refine gate_dst (N := 8) rfl ?_); refine bx_ 8 #[.int .i64 0, .int .i64 0, .int .i64 0, .bool false, .int .i64 0] 37 ?_; intro gb361 hg w20 hbox hb; have BK361 := aM (hbox); have GW361 := aM (bz_ w hg qz1); have GE361 := GW361; replace HB := bS_ hb; obtain ⟨NB355_361, NB361_355⟩ := nb_ hg (bk_ BK355.out); replace BK355 := bB_ BK355 hb; clear hb hbox hg; have hnb21 := NB361_355.out; have hnc21 := NB355_361.out; obtain ⟨hcz22_0, hcz22_1, hcz22_2, hcz22_3, hcz22_4, hfz22_0, hfz22_1, hfz22_2, hfz22_3, hfz22_4⟩ := b10_ BK361.out; have p362 : 0 ≤ (x11_1 : Int) := dt_; have q362 : x11_1 < (l1.length : Int) := dt_; obtain ⟨ad362, e362, hx362_0⟩ := Kd.at_int HR1.out x11_1 p362 q362; cases e362; have hn362_0 : ad362.block ≠ gb361 := nf_ hx362_0 GW361.out; have hn362_1 : ad362.block ≠ gb361 := nf_ hx362_0 GW361.out; have hn362_2 : ad362.block ≠ gb361 := nf_ hx362_0 GW361.out; have hn362_3 : ad362.block ≠ gb361 := nf_ hx362_0 GW361.out; have hn362_4 : ad362.block ≠ gb361 := nf_ hx362_0 GW361.out; replace hx362_0 := cB_ hx362_0; replace hx362_0 := (cell_far (p := ⟨gb361, 0, none⟩) qz23 (.int .i64 ((rd_T37 y356 x20_2).f0))).trans hx362_0; replace hx362_0 := (cell_far (p := ⟨gb361, 1, none⟩) qz24 (.int .i64 ((rd_T37 y356 x20_2).f1))).trans hx362_0; replace hx362_0 := (cell_far (p := ⟨gb361, 2, none⟩) qz25 (.int .i64 ((rd_T37 y356 x20_2).f2))).trans hx362_0; replace hx362_0 := (cell_far (p := ⟨gb361, 3, none⟩) qz26 (.bool ((rd_T37 y356 x20_2).f3))).trans hx362_0; replace hx362_0 := (cell_far (p := ⟨gb361, 4, none⟩) qz27 (.int .i64 ((rd_T37 y356 x20_2).f4))).trans hx362_0; (try have hy362_0 := fun (n_ : Nat) => (show (((((((w20.drewN n_).setCell ⟨gb361, 0, none⟩ (.int .i64 ((rd_T37 y356 x20_2).f0))).setCell ⟨gb361, 1, none⟩ (.int .i64 ((rd_T37 y356 x20_2).f1))).setCell ⟨gb361, 2, none⟩ (.int .i64 ((rd_T37 y356 x20_2).f2))).setCell ⟨gb361, 3, none⟩ (.bool ((rd_T37 y356 x20_2).f3))).setCell ⟨gb361, 4, none⟩ (.int .i64 ((rd_T37 y356 x20_2).f4)))).cell? _ = some _ from hx362_0)); clear hn362_0 hn362_1 hn362_2 hn362_3 hn362_4; replace p362 := eq_true p362; replace q362 := eq_true q362; have p363 : 0 ≤ (x20_2 : Int) := dt_; have q363 : x20_2 < (l1.length : Int) := dt_; obtain ⟨ad363, e363, hx363_0⟩ := Kd.at_int HR1.out x20_2 p363 q363; obtain rfl := iJ_ e363; have hn363_0 : ad362.block ≠ gb361 := nf_ hx363_0 GW361.out; have hn363_1 : ad362.block ≠ gb361 := nf_ hx363_0 GW361.out; have hn363_2 : ad362.block ≠ gb361 := nf_ hx363_0 GW361.out; have hn363_3 : ad362.block ≠ gb361 := nf_ hx363_0 GW361.out; have hn363_4 : ad362.block ≠ gb361 := nf_ hx363_0 GW361.out; replace hx363_0 := cB_ hx363_0; replace hx363_0 := (cell_far (p := ⟨gb361, 0, none⟩) (by first | (rw [add_block]; exact hn363_0) | (show (Addr.add _ _).block ≠ _; rw [add_block]; exact hn363_0) | exact hn363_0) (.int .i64 ((rd_T37 y356 x20_2).f0))).trans hx363_0; replace hx363_0 := (cell_far (p := ⟨gb361, 1, none⟩) (by first | (rw [add_block]; exact hn363_1) | (show (Addr.add _ _).block ≠ _; rw [add_block]; exact hn363_1) | exact hn363_1) (.int .i64 ((rd_T37 y356 x20_2).f1))).trans hx363_0; replace hx363_0 := (cell_far (p := ⟨gb361, 2, none⟩) (by first | (rw [add_block]; exact hn363_2) | (show (Addr.add _ _).block ≠ _; rw [add_block]; exact hn363_2) | exact hn363_2) (.int .i64 ((rd_T37 y356 x20_2).f2))).trans hx363_0; replace hx363_0 := (cell_far (p := ⟨gb361, 3, none⟩) (by first | (rw [add_block]; exact hn363_3) | (show (Addr.add _ _).block ≠ _; rw [add_block]; exact hn363_3) | exact hn363_3) (.bool ((rd_T37 y356 x20_2).f3))).trans hx363_0; replace hx363_0 := (cell_far (p := ⟨gb361, 4, none⟩) (by first | (rw [add_block]; exact hn363_4) | (show (Addr.add _ _).block ≠ _; rw [add_block]; exact hn363_4) | exact hn363_4) (.int .i64 ((rd_T37 y356 x20_2).f4))).trans hx363_0; (try have hy363_0 := fun (n_ : Nat) => (show (((((((w20.drewN n_).setCell ⟨gb361, 0, none⟩ (.int .i64 ((rd_T37 y356 x20_2).f0))).setCell ⟨gb361, 1, none⟩ (.int .i64 ((rd_T37 y356 x20_2).f1))).setCell ⟨gb361, 2, none⟩ (.int .i64 ((rd_T37 y356 x20_2).f2))).setCell ⟨gb361, 3, none⟩ (.bool ((rd_T37 y356 x20_2).f3))).setCell ⟨gb361, 4, none⟩ (.int .i64 ((rd_T37 y356 x20_2).f4)))).cell? _ = some _ from hx363_0)); clear hn363_0 hn363_1 hn363_2 hn363_3 hn363_4; replace p363 := eq_true p363; replace q363 := eq_true q363; obtain ⟨hcz23_0, hcz23_1, hcz23_2, hcz23_3, hcz23_4, hfz23_0, hfz23_1, hfz23_2, hfz23_3, hfz23_4⟩ := b10_ BK355.out) | go_quiet (fail))
 go_ret
 exact ⟨qzw, qz1⟩
 }
 {
 have H' := aM H
 clear H
 have p360 : (0 ≤ (x20_2 : Int)) = True := et_
 have q360 : (x20_2 < (y356.length : Int)) = True := et_
 obtain ⟨ad360, e360, hx360_0, hx360_1, hx360_2, hx360_3, hx360_4⟩ := tC5_ (at_T37 HR359.out x20_2 dt_ dt_)
 obtain rfl := iJ_ e360
 go_wp2_with (first | ((with_reducible refine gate_dst (N := 8) rfl ?_); refine bx_ 8 #[.int .i64 0, .int .i64 0, .int .i64 0, .bool false, .int .i64 0] 37 ?_; intro gb361 hg w24 hbox hb; have BK361 := aM (hbox); have GW361 := aM (bz_ w hg qz1); have GE361 := GW361; replace HB := bS_ hb; obtain ⟨NB355_361, NB361_355⟩ := nb_ hg (bk_ BK355.out); replace BK355 := bB_ BK355 hb; clear hb hbox hg; have hnb25 := NB361_355.out; have hnc25 := NB355_361.out; obtain ⟨hcz26_0, hcz26_1, hcz26_2, hcz26_3, hcz26_4, hfz26_0, hfz26_1, hfz26_2, hfz26_3, hfz26_4⟩ := b10_ BK361.out; have p362 : 0 ≤ (x11_1 : Int) := dt_; have q362 : x11_1 < (l1.length : Int) := dt_; obtain ⟨ad362, e362, hx362_0⟩ := Kd.at_int HR1.out x11_1 p362 q362; cases e362; have hn362_0 : ad362.block ≠ gb361 := nf_ hx362_0 GW361.out; have hn362_1 : ad362.block ≠ gb361 := nf_ hx362_0 GW361.out; have hn362_2 : ad362.block ≠ gb361 := nf_ hx362_0 GW361.out; have hn362_3 : ad362.block ≠ gb361 := nf_ hx362_0 GW361.out; have hn362_4 : ad362.block ≠ gb361 := nf_ hx362_0 GW361.out; replace hx362_0 := cB_ hx362_0; replace hx362_0 := (cell_far (p := ⟨gb361, 0, none⟩) qz23 (.int .i64 ((rd_T37 y356 x20_2).f0))).trans hx362_0; replace hx362_0 := (cell_far (p := ⟨gb361, 1, none⟩) qz24 (.int .i64 ((rd_T37 y356 x20_2).f1))).trans hx362_0; replace hx362_0 := (cell_far (p := ⟨gb361, 2, none⟩) qz25 (.int .i64 ((rd_T37 y356 x20_2).f2))).trans hx362_0; replace hx362_0 := (cell_far (p := ⟨gb361, 3, none⟩) qz26 (.bool ((rd_T37 y356 x20_2).f3))).trans hx362_0; replace hx362_0 := (cell_far (p := ⟨gb361, 4, none⟩) qz27 (.int .i64 ((rd_T37 y356 x20_2).f4))).trans hx362_0; (try have hy362_0 := fun (n_ : Nat) => (show (((((((w24.drewN n_).setCell ⟨gb361, 0, none⟩ (.int .i64 ((rd_T37 y356 x20_2).f0))).setCell ⟨gb361, 1, none⟩ (.int .i64 ((rd_T37 y356 x20_2).f1))).setCell ⟨gb361, 2, none⟩ (.int .i64 ((rd_T37 y356 x20_2).f2))).setCell ⟨gb361, 3, none⟩ (.bool ((rd_T37 y356 x20_2).f3))).setCell ⟨gb361, 4, none⟩ (.int .i64 ((rd_T37 y356 x20_2).f4)))).cell? _ = some _ from hx362_0)); clear hn362_0 hn362_1 hn362_2 hn362_3 hn362_4; replace p362 := eq_true p362; replace q362 := eq_true q362; have p363 : 0 ≤ (x20_2 : Int) := dt_; have q363 : x20_2 < (l1.length : Int) := dt_; obtain ⟨ad363, e363, hx363_0⟩ := Kd.at_int HR1.out x20_2 p363 q363; obtain rfl := iJ_ e363; have hn363_0 : ad362.block ≠ gb361 := nf_ hx363_0 GW361.out; have hn363_1 : ad362.block ≠ gb361 := nf_ hx363_0 GW361.out; have hn363_2 : ad362.block ≠ gb361 := nf_ hx363_0 GW361.out; have hn363_3 : ad362.block ≠ gb361 := nf_ hx363_0 GW361.out; have hn363_4 : ad362.block ≠ gb361 := nf_ hx363_0 GW361.out; replace hx363_0 := cB_ hx363_0; replace hx363_0 := (cell_far (p := ⟨gb361, 0, none⟩) (by first | (rw [add_block]; exact hn363_0) | (show (Addr.add _ _).block ≠ _; rw [add_block]; exact hn363_0) | exact hn363_0) (.int .i64 ((rd_T37 y356 x20_2).f0))).trans hx363_0; replace hx363_0 := (cell_far (p := ⟨gb361, 1, none⟩) (by first | (rw [add_block]; exact hn363_1) | (show (Addr.add _ _).block ≠ _; rw [add_block]; exact hn363_1) | exact hn363_1) (.int .i64 ((rd_T37 y356 x20_2).f1))).trans hx363_0; replace hx363_0 := (cell_far (p := ⟨gb361, 2, none⟩) (by first | (rw [add_block]; exact hn363_2) | (show (Addr.add _ _).block ≠ _; rw [add_block]; exact hn363_2) | exact hn363_2) (.int .i64 ((rd_T37 y356 x20_2).f2))).trans hx363_0; replace hx363_0 := (cell_far (p := ⟨gb361, 3, none⟩) (by first | (rw [add_block]; exact hn363_3) | (show (Addr.add _ _).block ≠ _; rw [add_block]; exact hn363_3) | exact hn363_3) (.bool ((rd_T37 y356 x20_2).f3))).trans hx363_0; replace hx363_0 := (cell_far (p := ⟨gb361, 4, none⟩) (by first | (rw [add_block]; exact hn363_4) | (show (Addr.add _ _).block ≠ _; rw [add_block]; exact hn363_4) | exact hn363_4) (.int .i64 ((rd_T37 y356 x20_2).f4))).trans hx363_0; (try have hy363_0 := fun (n_ : Nat) => (show (((((((w24.drewN n_).setCell ⟨gb361, 0, none⟩ (.int .i64 ((rd_T37 y356 x20_2).f0))).setCell ⟨gb361, 1, none⟩ (.int .i64 ((rd_T37 y356 x20_2).f1))).setCell ⟨gb361, 2, none⟩ (.int .i64 ((rd_T37 y356 x20_2).f2))).setCell ⟨gb361, 3, none⟩ (.bool ((rd_T37 y356 x20_2).f3))).setCell ⟨gb361, 4, none⟩ (.int .i64 ((rd_T37 y356 x20_2).f4)))).cell? _ = some _ from hx363_0)); clear hn363_0 hn363_1 hn363_2 hn363_3 hn363_4; replace p363 := eq_true p363; replace q363 := eq_true q363; obtain ⟨hcz27_0, hcz27_1, hcz27_2, hcz27_3, hcz27_4, hfz27_0, hfz27_1, hfz27_2, hfz27_3, hfz27_4⟩ := b10_ BK355.out) | go_quiet (fail))
 go_roundg k2
 case measure => have := HK1.out; have := HK2.out; omega
 case rel => exact ⟨(wrap64 (x20_2 + 1)), qz7, H', ⟨by have := HK1.out; have := HK2.out; omega⟩, ⟨by (with_reducible repeat (first | refine blk_drewN ?_ _ | refine blk_drew ?_ | refine blk_alloc ?_ _)); refine blk_far ?_ NB355_361.out _; (with_reducible repeat (first | refine blk_drewN ?_ _ | refine blk_drew ?_ | refine blk_alloc ?_ _)); refine blk_far ?_ NB355_361.out _; (with_reducible repeat (first | refine blk_drewN ?_ _ | refine blk_drew ?_ | refine blk_alloc ?_ _)); refine blk_far ?_ NB355_361.out _; (with_reducible repeat (first | refine blk_drewN ?_ _ | refine blk_drew ?_ | refine blk_alloc ?_ _)); refine blk_far ?_ NB355_361.out _; (with_reducible repeat (first | refine blk_drewN ?_ _ | refine blk_drew ?_ | refine blk_alloc ?_ _)); refine blk_far ?_ NB355_361.out _; exact bk_ BK355.out⟩, ⟨qz1⟩⟩
 }
 }
 {
 have H' := aM H
 clear H
 have p360 : (0 ≤ (x20_2 : Int)) = True := et_
 have q360 : (x20_2 < (y356.length : Int)) = True := et_
 obtain ⟨ad360, e360, hx360_0, hx360_1, hx360_2, hx360_3, hx360_4⟩ := tC5_ (at_T37 HR359.out x20_2 dt_ dt_)
 obtain rfl := iJ_ e360
 go_wp2_with (first | ((with_reducible refine gate_dst (N := 8) rfl ?_); refine bx_ 8 #[.int .i64 0, .int .i64 0, .int .i64 0, .bool false, .int .i64 0] 37 ?_; intro gb361 hg w28 hbox hb; have BK361 := aM (hbox); have GW361 := aM (bz_ w hg qz1); have GE361 := GW361; replace HB := bS_ hb; obtain ⟨NB355_361, NB361_355⟩ := nb_ hg (bk_ BK355.out); replace BK355 := bB_ BK355 hb; clear hb hbox hg; have hnb29 := NB361_355.out; have hnc29 := NB355_361.out; obtain ⟨hcz30_0, hcz30_1, hcz30_2, hcz30_3, hcz30_4, hfz30_0, hfz30_1, hfz30_2, hfz30_3, hfz30_4⟩ := b10_ BK361.out; have p362 : 0 ≤ (x11_1 : Int) := dt_; have q362 : x11_1 < (l1.length : Int) := dt_; obtain ⟨ad362, e362, hx362_0⟩ := Kd.at_int HR1.out x11_1 p362 q362; cases e362; have hn362_0 : ad362.block ≠ gb361 := nf_ hx362_0 GW361.out; have hn362_1 : ad362.block ≠ gb361 := nf_ hx362_0 GW361.out; have hn362_2 : ad362.block ≠ gb361 := nf_ hx362_0 GW361.out; have hn362_3 : ad362.block ≠ gb361 := nf_ hx362_0 GW361.out; have hn362_4 : ad362.block ≠ gb361 := nf_ hx362_0 GW361.out; replace hx362_0 := cB_ hx362_0; replace hx362_0 := (cell_far (p := ⟨gb361, 0, none⟩) qz23 (.int .i64 ((rd_T37 y356 x20_2).f0))).trans hx362_0; replace hx362_0 := (cell_far (p := ⟨gb361, 1, none⟩) qz24 (.int .i64 ((rd_T37 y356 x20_2).f1))).trans hx362_0; replace hx362_0 := (cell_far (p := ⟨gb361, 2, none⟩) qz25 (.int .i64 ((rd_T37 y356 x20_2).f2))).trans hx362_0; replace hx362_0 := (cell_far (p := ⟨gb361, 3, none⟩) qz26 (.bool ((rd_T37 y356 x20_2).f3))).trans hx362_0; replace hx362_0 := (cell_far (p := ⟨gb361, 4, none⟩) qz27 (.int .i64 ((rd_T37 y356 x20_2).f4))).trans hx362_0; (try have hy362_0 := fun (n_ : Nat) => (show (((((((w28.drewN n_).setCell ⟨gb361, 0, none⟩ (.int .i64 ((rd_T37 y356 x20_2).f0))).setCell ⟨gb361, 1, none⟩ (.int .i64 ((rd_T37 y356 x20_2).f1))).setCell ⟨gb361, 2, none⟩ (.int .i64 ((rd_T37 y356 x20_2).f2))).setCell ⟨gb361, 3, none⟩ (.bool ((rd_T37 y356 x20_2).f3))).setCell ⟨gb361, 4, none⟩ (.int .i64 ((rd_T37 y356 x20_2).f4)))).cell? _ = some _ from hx362_0)); clear hn362_0 hn362_1 hn362_2 hn362_3 hn362_4; replace p362 := eq_true p362; replace q362 := eq_true q362) | go_quiet (fail))
 go_roundg k2
 case measure => have := HK1.out; have := HK2.out; omega
 case rel => exact ⟨(wrap64 (x20_2 + 1)), qz7, H', ⟨by have := HK1.out; have := HK2.out; omega⟩, ⟨by (with_reducible repeat (first | refine blk_drewN ?_ _ | refine blk_drew ?_ | refine blk_alloc ?_ _)); refine blk_far ?_ NB355_361.out _; (with_reducible repeat (first | refine blk_drewN ?_ _ | refine blk_drew ?_ | refine blk_alloc ?_ _)); refine blk_far ?_ NB355_361.out _; (with_reducible repeat (first | refine blk_drewN ?_ _ | refine blk_drew ?_ | refine blk_alloc ?_ _)); refine blk_far ?_ NB355_361.out _; (with_reducible repeat (first | refine blk_drewN ?_ _ | refine blk_drew ?_ | refine blk_alloc ?_ _)); refine blk_far ?_ NB355_361.out _; (with_reducible repeat (first | refine blk_drewN ?_ _ | refine blk_drew ?_ | refine blk_alloc ?_ _)); refine blk_far ?_ NB355_361.out _; exact bk_ BK355.out⟩, ⟨qz1⟩⟩
 }
 }
 {
 have H' := aM H
 clear H
 go_wp2
 repeat (go_quiet (fail); try go_wp2)
 go_roundg k2
 case measure => have := HK1.out; have := HK2.out; omega
 case rel => exact ⟨(wrap64 (x11_1 + 1)), qz7, H', ⟨by have := HK1.out; have := HK2.out; omega⟩, ⟨qz1⟩⟩
 }
 }
 {
 obtain rfl := Option.some.inj H
 go_wp2
 repeat (go_quiet (fail); try go_wp2)
 go_ret
 exact ⟨qzw, qz1⟩
 }
/-! ### impl_Clash: function 39 -/
mutual
def impl_Clash.j0 : Nat → List (S37) → List Int → Bool → Int → Int → List Int → Option (Int)
 | 0, _, _, _, _, _, _ => none
 | k + 1, x1, x2, x19, x365000, x365001, x365002 => if x19 = true then (some 1) else (impl_Clash.l0 k x1 x2 x1 (x1.length : Int) 0 x365000 x365001 x365002)
def impl_Clash.l0 : Nat → List (S37) → List Int → List (S37) → Int → Int → Int → Int → List Int → Option (Int)
 | 0, _, _, _, _, _, _, _, _ => none
 | k + 1, x1, x2, x20, x21, x22, x365000, x365001, x365002 => if x22 < x21 then (if 0 ≤ x22 then (if x22 < (x20.length : Int) then ((impl_Choices.f k x365000 x365001 x365002 ((rd_T37 x20 x22).f0) ((rd_T37 x20 x22).f1) ((rd_T37 x20 x22).f2) ((rd_T37 x20 x22).f3) ((rd_T37 x20 x22).f4)).bind fun t368 => (if x22 < (x2.length : Int) then ((impl_hasInt.f k t368 (rd x2 x22)).bind fun t372 => (if t372 = true then (impl_Clash.l0 k x1 x2 x20 x21 (wrap64 (x22 + 1)) x365000 x365001 x365002) else (some 4))) else (none))) else (none)) else (none)) else ((impl_same.f k x2).bind fun t373 => (if t373 = true then (some 2) else ((impl_swaps.f k x1 x2).bind fun t374 => (if t374 = true then (some 3) else (some 0)))))
end
def impl_Clash.f (k : Nat) (a0_0 : Int) (a0_1 : Int) (l0_2 : List Int) (l1 : List (S37)) (l2 : List Int) : Option (Int) := (impl_CrewOk.f k a0_0 a0_1 l0_2 l1).bind fun t365 => (if t365 = true then (impl_Clash.j0 k l1 l2 ((l2.length : Int) != (l1.length : Int)) a0_0 a0_1 l0_2) else (impl_Clash.j0 k l1 l2 true a0_0 a0_1 l0_2))
theorem impl_Clash.mono_l : ∀ k, (∀ y0 y1 y2 y3 y4 y5, LeO (impl_Clash.j0 k y0 y1 y2 y3 y4 y5) (impl_Clash.j0 (k + 1) y0 y1 y2 y3 y4 y5)) ∧ (∀ y0 y1 y2 y3 y4 y5 y6 y7, LeO (impl_Clash.l0 k y0 y1 y2 y3 y4 y5 y6 y7) (impl_Clash.l0 (k + 1) y0 y1 y2 y3 y4 y5 y6 y7))
 | 0 => ⟨fun _ _ _ _ _ _ r h => by simp [impl_Clash.j0] at h, fun _ _ _ _ _ _ _ _ r h => by simp [impl_Clash.l0] at h⟩
 | k + 1 => by
  obtain ⟨ih0, ih1⟩ := impl_Clash.mono_l k
  refine ⟨?_, ?_⟩
  {
  intro y0 y1 y2 y3 y4 y5
  unfold impl_Clash.j0
  have j0 := @impl_Choices.mono
  have j1 := @impl_CrewOk.mono
  have j2 := @impl_hasInt.mono
  have j3 := @impl_same.mono
  have j4 := @impl_swaps.mono
  exact qL
  }
  {
  intro y0 y1 y2 y3 y4 y5 y6 y7
  unfold impl_Clash.l0
  have j0 := @impl_Choices.mono
  have j1 := @impl_CrewOk.mono
  have j2 := @impl_hasInt.mono
  have j3 := @impl_same.mono
  have j4 := @impl_swaps.mono
  exact qL
  }
theorem impl_Clash.mono : ∀ a0 a1 a2 a3 a4 k, LeO (impl_Clash.f k a0 a1 a2 a3 a4) (impl_Clash.f (k + 1) a0 a1 a2 a3 a4) := by
 intro a0 a1 a2 a3 a4 k
 obtain ⟨ih0, ih1⟩ := impl_Clash.mono_l k
 unfold impl_Clash.f
 have j0 := @impl_Choices.mono
 have j1 := @impl_CrewOk.mono
 have j2 := @impl_hasInt.mono
 have j3 := @impl_same.mono
 have j4 := @impl_swaps.mono
 exact qL
def impl_Clash.T6 : Bool × List (List Nat × List Nat) := (true, [([], []), ([], []), ([0, 1], [0, 1]), ([], []), ([], []), ([3, 4], [3, 4]), ([5], [5]), ([2, 6, 2], [2, 6]), ([7], [7])])
def impl_Clash.B6 : List Nat := [0, 0, 3, 0, 0, 24, 56, 127, 255]
theorem impl_Clash.tab6 : rtab .any (opsOf Try.f39 6) = impl_Clash.T6 := by kernel_rfl
theorem impl_Clash.bits6 : waitsOk impl_Clash.T6.2 impl_Clash.B6 = true := by kernel_rfl
theorem impl_Clash.calls (k : Nat) (a0_0 : Int) (a0_1 : Int) (A0_2 : Option Addr) (c0_2 : Nat) (l0_2 : List Int) (A1 : Option Addr) (c1 : Nat) (l1 : List (S37)) (A2 : Option Addr) (c2 : Nat) (l2 : List Int) (r : Int) (w : World) (hr0_2 : Kd.C (Kd.int .i64) w A0_2 l0_2.length l0_2) (hc0_2 : l0_2.length ≤ c0_2) (hr1 : Kd.C k37 w A1 l1.length l1) (hc1 : l1.length ≤ c1) (hr2 : Kd.C (Kd.int .i64) w A2 l2.length l2) (hc2 : l2.length ≤ c2) (h : impl_Clash.f k a0_0 a0_1 l0_2 l1 l2 = some r) :
  Calls Try.prog 39 #[.agg #[.int .i64 a0_0, .int .i64 a0_1, .slice A0_2 l0_2.length c0_2], .slice A1 l1.length c1, .slice A2 l2.length c2] w fun e w' => e = .returned (.int .i64 r) ∧ Below w.heap.size w w' := by
 have hu43 := Try.underlying43
 have hu37 := Try.underlying37
 have HR0_2 := aM hr0_2
 have HC0_2 := aM hc0_2
 clear hr0_2 hc0_2
 have HR1 := aM hr1
 have HC1 := aM hc1
 clear hr1 hc1
 have HR2 := aM hr2
 have HC2 := aM hc2
 clear hr2 hc2
 have HB := aM (Below.refl w.heap.size w)
 unfold impl_Clash.f at h
 have H := h
 clear h
 have HC4 := aM H
 clear H
 go_enter Try.func39, Try.ntmps39
 go_upto_region 1 with (first | ((with_reducible refine gate_dst (N := 3) rfl ?_); (try (refine gate_guard (by rfl) ?_; dsimp only)); refine bx_ 3 #[.int .i64 a0_0, .int .i64 a0_1, .slice A0_2 l0_2.length c0_2] 43 ?_; intro gb364 hg w5 hbox hb; have BK364 := aM (hbox); have GW364 := aM (bz_ w hg qz1); have GE364 := GW364; replace HB := bS_ hb; clear hb hbox hg))
 (try simp only [Act.put, List.setIfInBounds_toArray, List.set_cons_zero, List.set_cons_succ])
 go_cut [19] (fun v19 wc => ∃ (kq : Nat) (x19_3 : Bool), v19 = .bool x19_3 ∧ Aside0 (impl_Clash.j0 kq l1 l2 x19_3 a0_0 a0_1 l0_2 = some r) ∧ Aside0 (kq ≤ k) ∧ Aside0 (wc.heap[gb364]? = some (.cells #[.int .i64 a0_0, .int .i64 a0_1, (.slice A0_2 l0_2.length c0_2)] 43 (0, 0))) ∧ Aside0 (Below w.heap.size w wc))
 case first =>
  have H := HC4.out
  clear HC4
  replace H := Option.bind_eq_some_iff.mp H
  obtain ⟨t365, A60, H⟩ := H
  have A6 := aM A60
  clear A60
  replace H := iB_ H
  rcases H with ⟨rfl, H⟩ | ⟨rfl, H⟩
  {
  have H' := aM H
  clear H
  obtain ⟨hcz8_0, hcz8_1, hcz8_2, hfz8_0, hfz8_1, hfz8_2⟩ := b6_ BK364.out
  go_wp2_with (first | ((with_reducible refine gate_callee (f := 45) rfl ?_); refine goesL_ (some 11) rfl rfl Try.func45 (by kernel_rfl) rfl #[.agg #[.int .i64 a0_0, .int .i64 a0_1, .slice A0_2 l0_2.length c0_2], .slice A1 l1.length c1] rfl qz2 ?_; (with_reducible refine (impl_CrewOk.calls k a0_0 a0_1 _ _ l0_2 _ _ l1 true _ ?_ ?_ ?_ ?_ A6.out).mono ?_); exact qz6; exact qz28; exact qz10; exact HC1.out; rintro e w9 ⟨rfl, hb⟩; refine ⟨_, rfl, ?_⟩; replace BK364 := bB_ BK364 hb; replace HB := bS_ hb; (try clear hb)))
  go_meet
  case rel => exact ⟨_, (((l2.length : Int) != (l1.length : Int))), qz7, H', ⟨by first | omega | exact Nat.le_refl _⟩, ⟨bk_ BK364.out⟩, ⟨qz1⟩⟩
  }
  {
  have H' := aM H
  clear H
  obtain ⟨hcz10_0, hcz10_1, hcz10_2, hfz10_0, hfz10_1, hfz10_2⟩ := b6_ BK364.out
  go_wp2_with (first | ((with_reducible refine gate_callee (f := 45) rfl ?_); refine goesL_ (some 11) rfl rfl Try.func45 (by kernel_rfl) rfl #[.agg #[.int .i64 a0_0, .int .i64 a0_1, .slice A0_2 l0_2.length c0_2], .slice A1 l1.length c1] rfl qz2 ?_; (with_reducible refine (impl_CrewOk.calls k a0_0 a0_1 _ _ l0_2 _ _ l1 false _ ?_ ?_ ?_ ?_ A6.out).mono ?_); exact qz6; exact qz28; exact qz10; exact HC1.out; rintro e w11 ⟨rfl, hb⟩; refine ⟨_, rfl, ?_⟩; replace BK364 := bB_ BK364 hb; replace HB := bS_ hb; (try clear hb)))
  go_meet
  case rel => exact ⟨_, (true), qz7, H', ⟨by first | omega | exact Nat.le_refl _⟩, ⟨bk_ BK364.out⟩, ⟨qz1⟩⟩
  }
 case rest =>
 clear HC4
 try clear c1
 try clear c2
 obtain ⟨kq, x19_3, rfl, HA, HJ3, BK364, HB⟩ := hcut
 cases kq with
 | zero => exact absurd HA.out (by simp [impl_Clash.j0])
 | succ kj3 =>
 have H := HA.out
 clear HA
 simp only [impl_Clash.j0] at H
 replace H := iB_ H
 rcases H with ⟨rfl, H⟩ | ⟨rfl, H⟩
 {
 obtain rfl := Option.some.inj H
 go_wp2
 go_ret
 exact ⟨qzw, qz1⟩
 }
 {
 have H' := aM H
 clear H
 go_wp2
 go_loopg [22] kj3 (fun kq v22 w' => ∃ (x22_2 : Int), v22 = .int .i64 x22_2 ∧ Aside0 (impl_Clash.l0 kq l1 l2 l1 (l1.length : Int) x22_2 a0_0 a0_1 l0_2 = some r) ∧ Aside0 (kq ≤ kj3) ∧ Aside0 (w'.heap[gb364]? = some (.cells #[.int .i64 a0_0, .int .i64 a0_1, (.slice A0_2 l0_2.length c0_2)] 43 (0, 0))) ∧ Aside0 (Below w.heap.size w w'))
 case atStart => exact ⟨(0), qz7, H', ⟨Nat.le_refl _⟩, ⟨bk_ BK364.out⟩, ⟨qz1⟩⟩
 case round =>
 clear H'
 try clear c1
 try clear c2
 try clear c12
 obtain ⟨x22_2, rfl, HA, HK2, BK364, HB⟩ := hrel
 cases gk with
 | zero => exact absurd HA.out (by simp [impl_Clash.l0])
 | succ k2 =>
 have H := HA.out
 clear HA
 simp only [impl_Clash.l0] at H
 replace H := iE_ H
 rcases H with ⟨c13b0, H⟩ | ⟨c13b0, H⟩
 {
 replace H := iD_ H
 obtain ⟨c14b0, H⟩ := H
 replace H := iD_ H
 obtain ⟨c15b0, H⟩ := H
 replace H := Option.bind_eq_some_iff.mp H
 obtain ⟨t368, A160, H⟩ := H
 have A16 := aM A160
 clear A160
 replace H := iD_ H
 obtain ⟨c17b0, H⟩ := H
 replace H := Option.bind_eq_some_iff.mp H
 obtain ⟨t372, A180, H⟩ := H
 have A18 := aM A180
 clear A180
 replace H := iB_ H
 rcases H with ⟨rfl, H⟩ | ⟨rfl, H⟩
 {
 have H' := aM H
 clear H
 have p366 : (0 ≤ (x22_2 : Int)) = True := et_
 have q366 : (x22_2 < (l1.length : Int)) = True := et_
 obtain ⟨ad366, e366, hx366_0, hx366_1, hx366_2, hx366_3, hx366_4⟩ := tC5_ (at_T37 HR1.out x22_2 dt_ dt_)
 cases e366
 try go_wp2_with (first | ((with_reducible refine gate_dst (N := 8) rfl ?_); (try (refine gate_guard (by rfl) ?_; dsimp only)); refine bx_ 8 #[.int .i64 0, .int .i64 0, .int .i64 0, .bool false, .int .i64 0] 37 ?_; intro gb367 hg w20 hbox hb; have BK367 := aM (hbox); have GW367 := aM (bz_ w hg qz1); have GE367 := GW367; replace HB := bS_ hb; obtain ⟨NB364_367, NB367_364⟩ := nb_ hg (bk_ BK364.out); replace BK364 := bB_ BK364 hb; clear hb hbox hg; have hnb21 := NB367_364.out; have hnc21 := NB364_367.out; obtain ⟨hcz22_0, hcz22_1, hcz22_2, hcz22_3, hcz22_4, hfz22_0, hfz22_1, hfz22_2, hfz22_3, hfz22_4⟩ := b10_ BK367.out))
 generalize hq_ : (((((w20.setCell ⟨gb367, 0, none⟩ (.int .i64 ((rd_T37 l1 x22_2).f0))).setCell ⟨gb367, 1, none⟩ (.int .i64 ((rd_T37 l1 x22_2).f1))).setCell ⟨gb367, 2, none⟩ (.int .i64 ((rd_T37 l1 x22_2).f2))).setCell ⟨gb367, 3, none⟩ (.bool ((rd_T37 l1 x22_2).f3))).setCell ⟨gb367, 4, none⟩ (.int .i64 ((rd_T37 l1 x22_2).f4))) = w23
 replace BK364 := bqo_ hq_ BK364
 replace BK367 := bq5_ hq_ BK367
 replace HB : Aside0 (Below w.heap.size w w23) := ⟨by rw [← hq_]; exact qz1⟩
 clear hq_
 replace BK364 := aM (blk_drew BK364.out)
 replace BK367 := aM (blk_drew BK367.out)
 replace HB := aM (below_drew1 HB.out)
 have p371 : (0 ≤ (x22_2 : Int)) = True := et_
 have q371 : (x22_2 < (l2.length : Int)) = True := et_
 obtain ⟨ad371, e371, hx371_0⟩ := Kd.at_int HR2.out x22_2 dt_ dt_
 have hw371_0 := hx371_0
 cases e371
 replace hx371_0 := cB_ hx371_0
 refine start_ (n := 9) (S := fun w' => w'.cell? ⟨gb364, 0, none⟩ = some (.int .i64 a0_0) ∧ w'.cell? ⟨gb364, 1, none⟩ = some (.int .i64 a0_1) ∧ w'.cell? ⟨gb364, 2, none⟩ = some (.slice A0_2 l0_2.length c0_2) ∧ w'.cell? ⟨gb367, 0, none⟩ = some (.int .i64 ((rd_T37 l1 x22_2).f0)) ∧ w'.cell? ⟨gb367, 1, none⟩ = some (.int .i64 ((rd_T37 l1 x22_2).f1)) ∧ w'.cell? ⟨gb367, 2, none⟩ = some (.int .i64 ((rd_T37 l1 x22_2).f2)) ∧ w'.cell? ⟨gb367, 3, none⟩ = some (.bool ((rd_T37 l1 x22_2).f3)) ∧ w'.cell? ⟨gb367, 4, none⟩ = some (.int .i64 ((rd_T37 l1 x22_2).f4)) ∧ w'.cell? (ad371.add (x22_2).toNat) = some (.int .i64 (rd l2 x22_2))) (ds := []) #[false, false, false, false, false, false, false, false, false] (by kernel_rfl) rfl rfl ⟨(blk_cell BK364.out 0).trans rfl, (blk_cell BK364.out 1).trans rfl, (blk_cell BK364.out 2).trans rfl, (blk_cell BK367.out 0).trans rfl, (blk_cell BK367.out 1).trans rfl, (blk_cell BK367.out 2).trans rfl, (blk_cell BK367.out 3).trans rfl, (blk_cell BK367.out 4).trans rfl, (cB_ hw371_0)⟩ (fun hHeld => ?_); refine with_tabW impl_Clash.tab6 impl_Clash.bits6 (fun HT_ HW_ => ?_)
 generalize w23.drew = w24 at BK364 BK367 HB hx371_0 hHeld ⊢
 refine pI_ 3 (bqz 9 8) ?_
 refine jI_ 4 ?_
 refine jI_ 5 ?_
 refine sI9_ 0 ?_
 refine sI9_ 1 ?_
 refine sI9_ 6 ?_
 refine oI_ 2 29 (bqz 9 127) (fun K hK => ?_)
 refine goes_ Try.func29 (by kernel_rfl) rfl #[.agg #[.int .i64 a0_0, .int .i64 a0_1, .slice A0_2 l0_2.length c0_2], .agg #[.int .i64 ((rd_T37 l1 x22_2).f0), .int .i64 ((rd_T37 l1 x22_2).f1), .int .i64 ((rd_T37 l1 x22_2).f2), .bool ((rd_T37 l1 x22_2).f3), .int .i64 ((rd_T37 l1 x22_2).f4)]] (by rfl) rfl rfl qz2 ?_
 with_reducible refine (impl_Choices.calls k2 a0_0 a0_1 _ _ l0_2 ((rd_T37 l1 x22_2).f0) ((rd_T37 l1 x22_2).f1) ((rd_T37 l1 x22_2).f2) ((rd_T37 l1 x22_2).f3) ((rd_T37 l1 x22_2).f4) t368 _ ?side1 ?side2 A16.out).mono ?_
 (case side1 => exact qz6)
 (case side2 => exact qz28)
 rintro e w25 ⟨v369, rfl, ho0, hb⟩
 refine ⟨_, rfl, ?_⟩
 have HO370 := aM (Kd.R_lower ho0 (below_size qz1))
 replace BK364 := bB_ BK364 hb
 replace BK367 := bB_ BK367 hb
 replace HB := bS_ hb
 (try clear hb)
 (try clear hb2)
 (try clear hk)
 (try clear hi)
 (try clear ho0)
 obtain ⟨Ao26, co26, eo26⟩ := Kd.R_slice HO370.out
 (first | subst eo26 | (injection eo26 with f1_ f2_ f3_; have f4_ := f1_.symm; have f5_ := f3_.symm; clear f1_ f2_ f3_; subst f4_; subst f5_))
 refine hK.out _ _ (b3A_ BK364 (b5A_ BK367 (cB_ hw371_0))) (fun hHeld => ?_)
 clear hK K
 refine nm_ 29 ?_
 refine oI_ 7 34 (bqz 9 255) (fun K hK => ?_)
 refine goes_ Try.func67 (by kernel_rfl) rfl #[.slice Ao26 t368.length co26, .int .i64 (rd l2 x22_2)] (by rfl) rfl rfl qz2 ?_
 with_reducible refine (impl_hasInt.calls k2 _ _ t368 (rd l2 x22_2) true _ ?side1 ?side2 A18.out).mono ?_
 (case side1 => repeat (first | exact (Kd.R_reads' HO370.out).2.2 | (with_reducible refine Kd.C_alloc ?_ _) | (with_reducible refine Kd.C_drewN ?_ _) | (with_reducible refine Kd.C_drew ?_)))
 (case side2 => exact (Kd.R_reads' HO370.out).2.1)
 rintro e w' ⟨rfl, ⟨nd, rfl⟩⟩
 refine ⟨_, rfl, ?_⟩
 refine hK.out _ _ (b3A_ BK364 (b5A_ BK367 (cB_ hw371_0))) (fun hHeld => ?_)
 clear hK K
 refine nm_ 34 ?_
 refine pI_ 8 (bqz 9 511) ?_
 refine dN_ ?_
 try go_wp2
 go_roundg k2
 case measure => have := HJ3.out; have := HK2.out; omega
 case rel => exact ⟨(wrap64 (x22_2 + 1)), qz7, H', ⟨by have := HJ3.out; have := HK2.out; omega⟩, ⟨bk_ BK364.out⟩, ⟨qz1⟩⟩
 }
 {
 obtain rfl := Option.some.inj H
 have p366 : (0 ≤ (x22_2 : Int)) = True := et_
 have q366 : (x22_2 < (l1.length : Int)) = True := et_
 obtain ⟨ad366, e366, hx366_0, hx366_1, hx366_2, hx366_3, hx366_4⟩ := tC5_ (at_T37 HR1.out x22_2 dt_ dt_)
 cases e366
 try go_wp2_with (first | ((with_reducible refine gate_dst (N := 8) rfl ?_); (try (refine gate_guard (by rfl) ?_; dsimp only)); refine bx_ 8 #[.int .i64 0, .int .i64 0, .int .i64 0, .bool false, .int .i64 0] 37 ?_; intro gb367 hg w27 hbox hb; have BK367 := aM (hbox); have GW367 := aM (bz_ w hg qz1); have GE367 := GW367; replace HB := bS_ hb; obtain ⟨NB364_367, NB367_364⟩ := nb_ hg (bk_ BK364.out); replace BK364 := bB_ BK364 hb; clear hb hbox hg; have hnb28 := NB367_364.out; have hnc28 := NB364_367.out; obtain ⟨hcz29_0, hcz29_1, hcz29_2, hcz29_3, hcz29_4, hfz29_0, hfz29_1, hfz29_2, hfz29_3, hfz29_4⟩ := b10_ BK367.out))
 generalize hq_ : (((((w27.setCell ⟨gb367, 0, none⟩ (.int .i64 ((rd_T37 l1 x22_2).f0))).setCell ⟨gb367, 1, none⟩ (.int .i64 ((rd_T37 l1 x22_2).f1))).setCell ⟨gb367, 2, none⟩ (.int .i64 ((rd_T37 l1 x22_2).f2))).setCell ⟨gb367, 3, none⟩ (.bool ((rd_T37 l1 x22_2).f3))).setCell ⟨gb367, 4, none⟩ (.int .i64 ((rd_T37 l1 x22_2).f4))) = w30
 replace BK364 := bqo_ hq_ BK364
 replace BK367 := bq5_ hq_ BK367
 replace HB : Aside0 (Below w.heap.size w w30) := ⟨by rw [← hq_]; exact qz1⟩
 clear hq_
 replace BK364 := aM (blk_drew BK364.out)
 replace BK367 := aM (blk_drew BK367.out)
 replace HB := aM (below_drew1 HB.out)
 have p371 : (0 ≤ (x22_2 : Int)) = True := et_
 have q371 : (x22_2 < (l2.length : Int)) = True := et_
 obtain ⟨ad371, e371, hx371_0⟩ := Kd.at_int HR2.out x22_2 dt_ dt_
 have hw371_0 := hx371_0
 cases e371
 replace hx371_0 := cB_ hx371_0
 refine start_ (n := 9) (S := fun w' => w'.cell? ⟨gb364, 0, none⟩ = some (.int .i64 a0_0) ∧ w'.cell? ⟨gb364, 1, none⟩ = some (.int .i64 a0_1) ∧ w'.cell? ⟨gb364, 2, none⟩ = some (.slice A0_2 l0_2.length c0_2) ∧ w'.cell? ⟨gb367, 0, none⟩ = some (.int .i64 ((rd_T37 l1 x22_2).f0)) ∧ w'.cell? ⟨gb367, 1, none⟩ = some (.int .i64 ((rd_T37 l1 x22_2).f1)) ∧ w'.cell? ⟨gb367, 2, none⟩ = some (.int .i64 ((rd_T37 l1 x22_2).f2)) ∧ w'.cell? ⟨gb367, 3, none⟩ = some (.bool ((rd_T37 l1 x22_2).f3)) ∧ w'.cell? ⟨gb367, 4, none⟩ = some (.int .i64 ((rd_T37 l1 x22_2).f4)) ∧ w'.cell? (ad371.add (x22_2).toNat) = some (.int .i64 (rd l2 x22_2))) (ds := []) #[false, false, false, false, false, false, false, false, false] (by kernel_rfl) rfl rfl ⟨(blk_cell BK364.out 0).trans rfl, (blk_cell BK364.out 1).trans rfl, (blk_cell BK364.out 2).trans rfl, (blk_cell BK367.out 0).trans rfl, (blk_cell BK367.out 1).trans rfl, (blk_cell BK367.out 2).trans rfl, (blk_cell BK367.out 3).trans rfl, (blk_cell BK367.out 4).trans rfl, (cB_ hw371_0)⟩ (fun hHeld => ?_); refine with_tabW impl_Clash.tab6 impl_Clash.bits6 (fun HT_ HW_ => ?_)
 generalize w30.drew = w31 at BK364 BK367 HB hx371_0 hHeld ⊢
 refine pI_ 3 (bqz 9 8) ?_
 refine jI_ 4 ?_
 refine jI_ 5 ?_
 refine sI9_ 0 ?_
 refine sI9_ 1 ?_
 refine sI9_ 6 ?_
 refine oI_ 2 29 (bqz 9 127) (fun K hK => ?_)
 refine goes_ Try.func29 (by kernel_rfl) rfl #[.agg #[.int .i64 a0_0, .int .i64 a0_1, .slice A0_2 l0_2.length c0_2], .agg #[.int .i64 ((rd_T37 l1 x22_2).f0), .int .i64 ((rd_T37 l1 x22_2).f1), .int .i64 ((rd_T37 l1 x22_2).f2), .bool ((rd_T37 l1 x22_2).f3), .int .i64 ((rd_T37 l1 x22_2).f4)]] (by rfl) rfl rfl qz2 ?_
 with_reducible refine (impl_Choices.calls k2 a0_0 a0_1 _ _ l0_2 ((rd_T37 l1 x22_2).f0) ((rd_T37 l1 x22_2).f1) ((rd_T37 l1 x22_2).f2) ((rd_T37 l1 x22_2).f3) ((rd_T37 l1 x22_2).f4) t368 _ ?side1 ?side2 A16.out).mono ?_
 (case side1 => exact qz6)
 (case side2 => exact qz28)
 rintro e w32 ⟨v369, rfl, ho0, hb⟩
 refine ⟨_, rfl, ?_⟩
 have HO370 := aM (Kd.R_lower ho0 (below_size qz1))
 replace BK364 := bB_ BK364 hb
 replace BK367 := bB_ BK367 hb
 replace HB := bS_ hb
 (try clear hb)
 (try clear hb2)
 (try clear hk)
 (try clear hi)
 (try clear ho0)
 obtain ⟨Ao33, co33, eo33⟩ := Kd.R_slice HO370.out
 (first | subst eo33 | (injection eo33 with f1_ f2_ f3_; have f4_ := f1_.symm; have f5_ := f3_.symm; clear f1_ f2_ f3_; subst f4_; subst f5_))
 refine hK.out _ _ (b3A_ BK364 (b5A_ BK367 (cB_ hw371_0))) (fun hHeld => ?_)
 clear hK K
 refine nm_ 29 ?_
 refine oI_ 7 34 (bqz 9 255) (fun K hK => ?_)
 refine goes_ Try.func67 (by kernel_rfl) rfl #[.slice Ao33 t368.length co33, .int .i64 (rd l2 x22_2)] (by rfl) rfl rfl qz2 ?_
 with_reducible refine (impl_hasInt.calls k2 _ _ t368 (rd l2 x22_2) false _ ?side1 ?side2 A18.out).mono ?_
 (case side1 => repeat (first | exact (Kd.R_reads' HO370.out).2.2 | (with_reducible refine Kd.C_alloc ?_ _) | (with_reducible refine Kd.C_drewN ?_ _) | (with_reducible refine Kd.C_drew ?_)))
 (case side2 => exact (Kd.R_reads' HO370.out).2.1)
 rintro e w' ⟨rfl, ⟨nd, rfl⟩⟩
 refine ⟨_, rfl, ?_⟩
 refine hK.out _ _ (b3A_ BK364 (b5A_ BK367 (cB_ hw371_0))) (fun hHeld => ?_)
 clear hK K
 refine nm_ 34 ?_
 refine pI_ 8 (bqz 9 511) ?_
 refine dN_ ?_
 try go_wp2
 go_ret
 exact ⟨qzw, qz1⟩
 }
 }
 {
 replace H := Option.bind_eq_some_iff.mp H
 obtain ⟨t373, A340, H⟩ := H
 have A34 := aM A340
 clear A340
 replace H := iB_ H
 rcases H with ⟨rfl, H⟩ | ⟨rfl, H⟩
 {
 obtain rfl := Option.some.inj H
 go_wp2_with (first | ((with_reducible refine gate_callee (f := 78) rfl ?_); refine goesL_ (some 39) rfl rfl Try.func78 (by kernel_rfl) rfl #[.slice A2 l2.length c2] rfl qz2 ?_; (with_reducible refine (impl_same.calls k2 _ _ l2 true _ ?_ ?_ A34.out).mono ?_); exact qz15; exact HC2.out; rintro e w' ⟨rfl, ⟨nd, rfl⟩⟩; refine ⟨_, rfl, ?_⟩))
 go_ret
 exact ⟨qzw, qz1⟩
 }
 {
 replace H := Option.bind_eq_some_iff.mp H
 obtain ⟨t374, A360, H⟩ := H
 have A36 := aM A360
 clear A360
 replace H := iB_ H
 rcases H with ⟨rfl, H⟩ | ⟨rfl, H⟩
 {
 obtain rfl := Option.some.inj H
 go_wp2_with (first | ((with_reducible refine gate_callee (f := 78) rfl ?_); refine goesL_ (some 39) rfl rfl Try.func78 (by kernel_rfl) rfl #[.slice A2 l2.length c2] rfl qz2 ?_; (with_reducible refine (impl_same.calls k2 _ _ l2 false _ ?_ ?_ A34.out).mono ?_); exact qz15; exact HC2.out; rintro e w' ⟨rfl, ⟨nd, rfl⟩⟩; refine ⟨_, rfl, ?_⟩) | ((with_reducible refine gate_callee (f := 79) rfl ?_); refine goesL_ (some 43) rfl rfl Try.func79 (by kernel_rfl) rfl #[.slice A1 l1.length c1, .slice A2 l2.length c2] rfl qz2 ?_; (with_reducible refine (impl_swaps.calls k2 _ _ l1 _ _ l2 true _ ?side1 ?side2 ?side3 ?side4 A36.out).mono ?_); (case side1 => repeat (first | exact (Kd.C_below HR1.out qz1) | (with_reducible refine Kd.C_alloc ?_ _) | (with_reducible refine Kd.C_drewN ?_ _) | (with_reducible refine Kd.C_drew ?_))); (case side2 => exact HC1.out); (case side3 => repeat (first | exact (Kd.C_below HR2.out qz1) | (with_reducible refine Kd.C_alloc ?_ _) | (with_reducible refine Kd.C_drewN ?_ _) | (with_reducible refine Kd.C_drew ?_))); (case side4 => exact HC2.out); rintro e w38 ⟨rfl, hb⟩; refine ⟨_, rfl, ?_⟩; replace BK364 := bB_ BK364 hb; replace HB := bS_ hb; (try clear hb)))
 go_ret
 exact ⟨qzw, qz1⟩
 }
 {
 obtain rfl := Option.some.inj H
 go_wp2_with (first | ((with_reducible refine gate_callee (f := 78) rfl ?_); refine goesL_ (some 39) rfl rfl Try.func78 (by kernel_rfl) rfl #[.slice A2 l2.length c2] rfl qz2 ?_; (with_reducible refine (impl_same.calls k2 _ _ l2 false _ ?_ ?_ A34.out).mono ?_); exact qz15; exact HC2.out; rintro e w' ⟨rfl, ⟨nd, rfl⟩⟩; refine ⟨_, rfl, ?_⟩) | ((with_reducible refine gate_callee (f := 79) rfl ?_); refine goesL_ (some 43) rfl rfl Try.func79 (by kernel_rfl) rfl #[.slice A1 l1.length c1, .slice A2 l2.length c2] rfl qz2 ?_; (with_reducible refine (impl_swaps.calls k2 _ _ l1 _ _ l2 false _ ?side1 ?side2 ?side3 ?side4 A36.out).mono ?_); (case side1 => repeat (first | exact (Kd.C_below HR1.out qz1) | (with_reducible refine Kd.C_alloc ?_ _) | (with_reducible refine Kd.C_drewN ?_ _) | (with_reducible refine Kd.C_drew ?_))); (case side2 => exact HC1.out); (case side3 => repeat (first | exact (Kd.C_below HR2.out qz1) | (with_reducible refine Kd.C_alloc ?_ _) | (with_reducible refine Kd.C_drewN ?_ _) | (with_reducible refine Kd.C_drew ?_))); (case side4 => exact HC2.out); rintro e w39 ⟨rfl, hb⟩; refine ⟨_, rfl, ?_⟩; replace BK364 := bB_ BK364 hb; replace HB := bS_ hb; (try clear hb)))
 go_ret
 exact ⟨qzw, qz1⟩
 }
 }
 }
 }
end Go.Proofs.Ytankmdbbgepmbaa.PFnClashes
