-- Made by a program of this session out of the translation. Lean checks it.
import Derived.Test.YtankmdbbgepmbaaPFnLivelyx1
namespace Go.Proofs.Ytankmdbbgepmbaa.PFnLively
open Go.RowKit Go.Proofs.YtankmdbbgepmbaaW.PrintWords Go.Proofs.YtankmdbbgepmbaaW.PrintLast Go.Proofs.YtankmdbbgepmbaaW.PrintMore
attribute [local go_sem] max2_int min2_int max_two min_two max_three min_three max_four min_four   -- for this text's walks alone
set_option linter.unusedVariables false
set_option linter.unusedSimpArgs false

/-! ### impl_CrewOk: function 45 -/
mutual
def impl_CrewOk.j0 : Nat → List (S37) → Bool → Int → Int → List Int → Option (Bool)
 | 0, _, _, _, _, _ => none
 | k + 1, x1, x16, x117000, x117001, x117002 => if x16 = true then (some false) else (impl_CrewOk.l0 k x1 x1 (x1.length : Int) 0 x117000 x117001 x117002)
def impl_CrewOk.l0 : Nat → List (S37) → List (S37) → Int → Int → Int → Int → List Int → Option (Bool)
 | 0, _, _, _, _, _, _, _ => none
 | k + 1, x1, x17, x18, x19, x117000, x117001, x117002 => if x19 < x18 then (if 0 ≤ x19 then (if x19 < (x17.length : Int) then ((impl_in.f ((rd_T37 x17 x19).f0) 1 99).bind fun t120 => (if t120 = true then (if x19 > 0 then (if 0 ≤ (wrap64 (x19 - 1)) then (if (wrap64 (x19 - 1)) < (x1.length : Int) then (if ((rd_T37 x1 (wrap64 (x19 - 1))).f0) ≥ ((rd_T37 x17 x19).f0) then (impl_CrewOk.j2 k x1 x19 x17 x18 x19 true x117000 x117001 x117002 ((rd_T37 x17 x19).f0) ((rd_T37 x17 x19).f1) ((rd_T37 x17 x19).f2) ((rd_T37 x17 x19).f3) ((rd_T37 x17 x19).f4)) else ((impl_standsOk.f k x117000 x117001 x117002 ((rd_T37 x17 x19).f0) ((rd_T37 x17 x19).f1) ((rd_T37 x17 x19).f2) ((rd_T37 x17 x19).f3) ((rd_T37 x17 x19).f4)).bind fun t122 => (if t122 = true then ((impl_in.f ((rd_T37 x17 x19).f4) 0 1000000).bind fun t123 => (impl_CrewOk.j2 k x1 x19 x17 x18 x19 (!t123) x117000 x117001 x117002 ((rd_T37 x17 x19).f0) ((rd_T37 x17 x19).f1) ((rd_T37 x17 x19).f2) ((rd_T37 x17 x19).f3) ((rd_T37 x17 x19).f4))) else (impl_CrewOk.j2 k x1 x19 x17 x18 x19 true x117000 x117001 x117002 ((rd_T37 x17 x19).f0) ((rd_T37 x17 x19).f1) ((rd_T37 x17 x19).f2) ((rd_T37 x17 x19).f3) ((rd_T37 x17 x19).f4))))) else (none)) else (none)) else ((impl_standsOk.f k x117000 x117001 x117002 ((rd_T37 x17 x19).f0) ((rd_T37 x17 x19).f1) ((rd_T37 x17 x19).f2) ((rd_T37 x17 x19).f3) ((rd_T37 x17 x19).f4)).bind fun t124 => (if t124 = true then ((impl_in.f ((rd_T37 x17 x19).f4) 0 1000000).bind fun t125 => (impl_CrewOk.j2 k x1 x19 x17 x18 x19 (!t125) x117000 x117001 x117002 ((rd_T37 x17 x19).f0) ((rd_T37 x17 x19).f1) ((rd_T37 x17 x19).f2) ((rd_T37 x17 x19).f3) ((rd_T37 x17 x19).f4))) else (impl_CrewOk.j2 k x1 x19 x17 x18 x19 true x117000 x117001 x117002 ((rd_T37 x17 x19).f0) ((rd_T37 x17 x19).f1) ((rd_T37 x17 x19).f2) ((rd_T37 x17 x19).f3) ((rd_T37 x17 x19).f4))))) else (impl_CrewOk.j2 k x1 x19 x17 x18 x19 true x117000 x117001 x117002 ((rd_T37 x17 x19).f0) ((rd_T37 x17 x19).f1) ((rd_T37 x17 x19).f2) ((rd_T37 x17 x19).f3) ((rd_T37 x17 x19).f4)))) else (none)) else (none)) else (some true)
def impl_CrewOk.j2 : Nat → List (S37) → Int → List (S37) → Int → Int → Bool → Int → Int → List Int → Int → Int → Int → Bool → Int → Option (Bool)
 | 0, _, _, _, _, _, _, _, _, _, _, _, _, _, _ => none
 | k + 1, x1, x5, x17, x18, x19, x54, x117000, x117001, x117002, x120000, x120001, x120002, x120003, x120004 => if x54 = true then (some false) else (if 0 ≤ x5 then (if x5 ≤ (x1.length : Int) then ((some (x1.take (x5 : Int).toNat : List (S37))).bind fun y126 => (impl_CrewOk.l1 k x1 x17 x18 x19 y126 (y126.length : Int) 0 x117000 x117001 x117002 x120000 x120001 x120002 x120003 x120004)) else (none)) else (none))
def impl_CrewOk.l1 : Nat → List (S37) → List (S37) → Int → Int → List (S37) → Int → Int → Int → Int → List Int → Int → Int → Int → Bool → Int → Option (Bool)
 | 0, _, _, _, _, _, _, _, _, _, _, _, _, _, _, _ => none
 | k + 1, x1, x17, x18, x19, x57, x58, x59, x117000, x117001, x117002, x120000, x120001, x120002, x120003, x120004 => if x59 < x58 then (if 0 ≤ x59 then (if x59 < (x57.length : Int) then (if ((rd_T37 x57 x59).f1) = x120001 then (some false) else (impl_CrewOk.l1 k x1 x17 x18 x19 x57 x58 (wrap64 (x59 + 1)) x117000 x117001 x117002 x120000 x120001 x120002 x120003 x120004)) else (none)) else (none)) else (impl_CrewOk.l0 k x1 x17 x18 (wrap64 (x19 + 1)) x117000 x117001 x117002)
end
def impl_CrewOk.f (k : Nat) (a0_0 : Int) (a0_1 : Int) (l0_2 : List Int) (l1 : List (S37)) : Option (Bool) := (impl_FloorOk.f k a0_0 a0_1 l0_2).bind fun t117 => (if t117 = true then (impl_CrewOk.j0 k l1 (decide ((l1.length : Int) > 20)) a0_0 a0_1 l0_2) else (impl_CrewOk.j0 k l1 true a0_0 a0_1 l0_2))
theorem impl_CrewOk.mono_l : ∀ k, (∀ y0 y1 y2 y3 y4, LeO (impl_CrewOk.j0 k y0 y1 y2 y3 y4) (impl_CrewOk.j0 (k + 1) y0 y1 y2 y3 y4)) ∧ (∀ y0 y1 y2 y3 y4 y5 y6, LeO (impl_CrewOk.l0 k y0 y1 y2 y3 y4 y5 y6) (impl_CrewOk.l0 (k + 1) y0 y1 y2 y3 y4 y5 y6)) ∧ (∀ y0 y1 y2 y3 y4 y5 y6 y7 y8 y9 y10 y11 y12 y13, LeO (impl_CrewOk.j2 k y0 y1 y2 y3 y4 y5 y6 y7 y8 y9 y10 y11 y12 y13) (impl_CrewOk.j2 (k + 1) y0 y1 y2 y3 y4 y5 y6 y7 y8 y9 y10 y11 y12 y13)) ∧ (∀ y0 y1 y2 y3 y4 y5 y6 y7 y8 y9 y10 y11 y12 y13 y14, LeO (impl_CrewOk.l1 k y0 y1 y2 y3 y4 y5 y6 y7 y8 y9 y10 y11 y12 y13 y14) (impl_CrewOk.l1 (k + 1) y0 y1 y2 y3 y4 y5 y6 y7 y8 y9 y10 y11 y12 y13 y14))
 | 0 => ⟨fun _ _ _ _ _ r h => by simp [impl_CrewOk.j0] at h, fun _ _ _ _ _ _ _ r h => by simp [impl_CrewOk.l0] at h, fun _ _ _ _ _ _ _ _ _ _ _ _ _ _ r h => by simp [impl_CrewOk.j2] at h, fun _ _ _ _ _ _ _ _ _ _ _ _ _ _ _ r h => by simp [impl_CrewOk.l1] at h⟩
 | k + 1 => by
  obtain ⟨ih0, ih1, ih2, ih3⟩ := impl_CrewOk.mono_l k
  refine ⟨?_, ?_, ?_, ?_⟩
  {
  intro y0 y1 y2 y3 y4
  unfold impl_CrewOk.j0
  have j0 := @impl_FloorOk.mono
  have j1 := @impl_standsOk.mono
  exact qL
  }
  {
  intro y0 y1 y2 y3 y4 y5 y6
  unfold impl_CrewOk.l0
  have j0 := @impl_FloorOk.mono
  have j1 := @impl_standsOk.mono
  exact qL
  }
  {
  intro y0 y1 y2 y3 y4 y5 y6 y7 y8 y9 y10 y11 y12 y13
  unfold impl_CrewOk.j2
  have j0 := @impl_FloorOk.mono
  have j1 := @impl_standsOk.mono
  exact qL
  }
  {
  intro y0 y1 y2 y3 y4 y5 y6 y7 y8 y9 y10 y11 y12 y13 y14
  unfold impl_CrewOk.l1
  have j0 := @impl_FloorOk.mono
  have j1 := @impl_standsOk.mono
  exact qL
  }
theorem impl_CrewOk.mono : ∀ a0 a1 a2 a3 k, LeO (impl_CrewOk.f k a0 a1 a2 a3) (impl_CrewOk.f (k + 1) a0 a1 a2 a3) := by
 intro a0 a1 a2 a3 k
 obtain ⟨ih0, ih1, ih2, ih3⟩ := impl_CrewOk.mono_l k
 unfold impl_CrewOk.f
 have j0 := @impl_FloorOk.mono
 have j1 := @impl_standsOk.mono
 exact qL
def impl_CrewOk.T6 : Bool × List (List Nat × List Nat) := (true, [([], []), ([0], [0]), ([1], [1]), ([2], [2]), ([3, 2], [3]), ([4], [4]), ([5, 4], [4, 5]), ([6, 4, 4], [4, 6]), ([7], [7]), ([7], [7]), ([9, 7], [7, 9]), ([8, 10, 7], [7, 8, 10]), ([11, 7], [7, 11]), ([12, 7], [7, 12]), ([7], [7]), ([14, 7], [7, 14]), ([13, 15, 7], [7, 13, 15]), ([7, 16, 4], [4, 7, 16]), ([4, 17], [4, 17]), ([18, 7], [18]), ([19], [19]), ([19], [19]), ([20, 21, 19, 19], [19, 20, 21]), ([22, 19], [19, 22]), ([19, 23], [19, 23]), ([24, 22], [24]), ([25], [25]), ([26, 25], [25, 26]), ([27, 25, 25], [25, 27]), ([28, 25], [25, 28]), ([25, 29], [25, 29])])
def impl_CrewOk.B6 : List Nat := [0, 1, 3, 7, 15, 31, 63, 127, 255, 255, 767, 2047, 4095, 8191, 255, 16639, 65535, 131071, 262143, 524287, 1048575, 1048575, 4194303, 8388607, 16777215, 33554431, 67108863, 134217727, 268435455, 536870911, 1073741823]
theorem impl_CrewOk.tab6 : rtab .any (opsOf Try.f45 6) = impl_CrewOk.T6 := by kernel_rfl
theorem impl_CrewOk.bits6 : waitsOk impl_CrewOk.T6.2 impl_CrewOk.B6 = true := by kernel_rfl
set_option maxHeartbeats 8000000 in
set_option maxRecDepth 100000 in
theorem impl_CrewOk.calls (k : Nat) (a0_0 : Int) (a0_1 : Int) (A0_2 : Option Addr) (c0_2 : Nat) (l0_2 : List Int) (A1 : Option Addr) (c1 : Nat) (l1 : List (S37)) (r : Bool) (w : World) (hr0_2 : Kd.C (Kd.int .i64) w A0_2 l0_2.length l0_2) (hc0_2 : l0_2.length ≤ c0_2) (hr1 : Kd.C k37 w A1 l1.length l1) (hc1 : l1.length ≤ c1) (h : impl_CrewOk.f k a0_0 a0_1 l0_2 l1 = some r) :
  Calls Try.prog 45 #[.agg #[.int .i64 a0_0, .int .i64 a0_1, .slice A0_2 l0_2.length c0_2], .slice A1 l1.length c1] w fun e w' => e = .returned (.bool r) ∧ Below w.heap.size w w' := by
 have hu43 := Try.underlying43
 have hu37 := Try.underlying37
 have HR0_2 := aM hr0_2
 have HC0_2 := aM hc0_2
 clear hr0_2 hc0_2
 have HR1 := aM hr1
 have HC1 := aM hc1
 clear hr1 hc1
 have HB := aM (Below.refl w.heap.size w)
 unfold impl_CrewOk.f at h
 have H := h
 clear h
 have HC3 := aM H
 clear H
 go_enter Try.func45, Try.ntmps45
 go_upto_region 1 with (first | ((with_reducible refine gate_dst (N := 2) rfl ?_); (try (refine gate_guard (by rfl) ?_; dsimp only)); refine bx_ 2 #[.int .i64 a0_0, .int .i64 a0_1, .slice A0_2 l0_2.length c0_2] 43 ?_; intro gb116 hg w4 hbox hb; have BK116 := aM (hbox); have GW116 := aM (bz_ w hg qz1); have GE116 := GW116; replace HB := bS_ hb; clear hb hbox hg))
 (try simp only [Act.put, List.setIfInBounds_toArray, List.set_cons_zero, List.set_cons_succ])
 go_cut [16] (fun v16 wc => ∃ (kq : Nat) (x16_2 : Bool), v16 = .bool x16_2 ∧ Aside0 (impl_CrewOk.j0 kq l1 x16_2 a0_0 a0_1 l0_2 = some r) ∧ Aside0 (kq ≤ k) ∧ Aside0 (wc.heap[gb116]? = some (.cells #[.int .i64 a0_0, .int .i64 a0_1, (.slice A0_2 l0_2.length c0_2)] 43 (0, 0))) ∧ Aside0 (Below w.heap.size w wc))
 case first =>
  have H := HC3.out
  clear HC3
  replace H := Option.bind_eq_some_iff.mp H
  obtain ⟨t117, A50, H⟩ := H
  have A5 := aM A50
  clear A50
  replace H := iB_ H
  rcases H with ⟨rfl, H⟩ | ⟨rfl, H⟩
  {
  have H' := aM H
  clear H
  obtain ⟨hcz7_0, hcz7_1, hcz7_2, hfz7_0, hfz7_1, hfz7_2⟩ := b6_ BK116.out
  go_wp2_with (first | ((with_reducible refine gate_callee (f := 64) rfl ?_); refine goesL_ (some 10) rfl rfl Try.func64 (by kernel_rfl) rfl #[.agg #[.int .i64 a0_0, .int .i64 a0_1, .slice A0_2 l0_2.length c0_2]] rfl qz2 ?_; (with_reducible refine (impl_FloorOk.calls k a0_0 a0_1 _ _ l0_2 true _ ?_ ?_ A5.out).mono ?_); exact qz5; exact qz14; rintro e w8 ⟨rfl, hb⟩; refine ⟨_, rfl, ?_⟩; replace BK116 := bB_ BK116 hb; replace HB := bS_ hb; (try clear hb)))
  go_meet
  case rel => exact ⟨_, (decide ((l1.length : Int) > 20)), qz6, H', ⟨by first | omega | exact Nat.le_refl _⟩, ⟨bk_ BK116.out⟩, ⟨qz1⟩⟩
  }
  {
  have H' := aM H
  clear H
  obtain ⟨hcz9_0, hcz9_1, hcz9_2, hfz9_0, hfz9_1, hfz9_2⟩ := b6_ BK116.out
  go_wp2_with (first | ((with_reducible refine gate_callee (f := 64) rfl ?_); refine goesL_ (some 10) rfl rfl Try.func64 (by kernel_rfl) rfl #[.agg #[.int .i64 a0_0, .int .i64 a0_1, .slice A0_2 l0_2.length c0_2]] rfl qz2 ?_; (with_reducible refine (impl_FloorOk.calls k a0_0 a0_1 _ _ l0_2 false _ ?_ ?_ A5.out).mono ?_); exact qz5; exact qz14; rintro e w10 ⟨rfl, hb⟩; refine ⟨_, rfl, ?_⟩; replace BK116 := bB_ BK116 hb; replace HB := bS_ hb; (try clear hb)))
  go_meet
  case rel => exact ⟨_, (true), qz6, H', ⟨by first | omega | exact Nat.le_refl _⟩, ⟨bk_ BK116.out⟩, ⟨qz1⟩⟩
  }
 case rest =>
 clear HC3
 try clear c1
 obtain ⟨kq, x16_2, rfl, HA, HJ2, BK116, HB⟩ := hcut
 cases kq with
 | zero => exact absurd HA.out (by simp [impl_CrewOk.j0])
 | succ kj2 =>
 have H := HA.out
 clear HA
 simp only [impl_CrewOk.j0] at H
 replace H := iB_ H
 rcases H with ⟨rfl, H⟩ | ⟨rfl, H⟩
 {
 obtain rfl := Option.some.inj H
 go_wp2
 go_ret
 exact ⟨qzw, qz1⟩
 }
 {
 have H' := aM H
 clear H
 go_wp2
 go_loopg [19] kj2 (fun kq v19 w' => ∃ (x19_2 : Int), v19 = .int .i64 x19_2 ∧ Aside0 (impl_CrewOk.l0 kq l1 l1 (l1.length : Int) x19_2 a0_0 a0_1 l0_2 = some r) ∧ Aside0 (kq ≤ kj2) ∧ Aside0 (w'.heap[gb116]? = some (.cells #[.int .i64 a0_0, .int .i64 a0_1, (.slice A0_2 l0_2.length c0_2)] 43 (0, 0))) ∧ Aside0 (Below w.heap.size w w'))
 case atStart => exact ⟨(0), qz6, H', ⟨Nat.le_refl _⟩, ⟨bk_ BK116.out⟩, ⟨qz1⟩⟩
 case round =>
 clear H'
 try clear c1
 try clear c11
 obtain ⟨x19_2, rfl, HA, HK2, BK116, HB⟩ := hrel
 cases gk with
 | zero => exact absurd HA.out (by simp [impl_CrewOk.l0])
 | succ k2 =>
 have H := HA.out
 clear HA
 simp only [impl_CrewOk.l0] at H
 replace H := iE_ H
 rcases H with ⟨c12b0, H⟩ | ⟨c12b0, H⟩
 {
 replace H := iD_ H
 obtain ⟨c13b0, H⟩ := H
 replace H := iD_ H
 obtain ⟨c14b0, H⟩ := H
 have HC15 := aM H
 clear H
 have p118 : (0 ≤ (x19_2 : Int)) = True := et_
 have q118 : (x19_2 < (l1.length : Int)) = True := et_
 obtain ⟨ad118, e118, hx118_0, hx118_1, hx118_2, hx118_3, hx118_4⟩ := at_T37 HR1.out x19_2 dt_ dt_
 cases e118
 replace hx118_0 := cB_ hx118_0
 replace hx118_1 := cB_ hx118_1
 replace hx118_2 := cB_ hx118_2
 replace hx118_3 := cB_ hx118_3
 replace hx118_4 := cB_ hx118_4
 go_upto_region 6 with (first | ((with_reducible refine gate_dst (N := 6) rfl ?_); (try (refine gate_guard (by rfl) ?_; dsimp only)); refine bx_ 6 #[.int .i64 0, .int .i64 0, .int .i64 0, .bool false, .int .i64 0] 37 ?_; intro gb119 hg w16 hbox hb; have BK119 := aM (hbox); have GW119 := aM (bz_ w hg qz1); have GE119 := GW119; replace HB := bS_ hb; obtain ⟨NB116_119, NB119_116⟩ := nb_ hg (bk_ BK116.out); replace BK116 := bB_ BK116 hb; clear hb hbox hg; have hnb17 := NB119_116.out; have hnc17 := NB116_119.out; obtain ⟨hcz18_0, hcz18_1, hcz18_2, hcz18_3, hcz18_4, hfz18_0, hfz18_1, hfz18_2, hfz18_3, hfz18_4⟩ := b10_ BK119.out))
 (try simp only [Act.put, List.setIfInBounds_toArray, List.set_cons_zero, List.set_cons_succ])
 go_cut [54] (fun v54 wc => ∃ (kq : Nat) (x54_14 : Bool), v54 = .bool x54_14 ∧ Aside0 (impl_CrewOk.j2 kq l1 x19_2 l1 (l1.length : Int) x19_2 x54_14 a0_0 a0_1 l0_2 ((rd_T37 l1 x19_2).f0) ((rd_T37 l1 x19_2).f1) ((rd_T37 l1 x19_2).f2) ((rd_T37 l1 x19_2).f3) ((rd_T37 l1 x19_2).f4) = some r) ∧ Aside0 (kq ≤ k2) ∧ Aside0 (wc.heap[gb116]? = some (.cells #[.int .i64 a0_0, .int .i64 a0_1, (.slice A0_2 l0_2.length c0_2)] 43 (0, 0))) ∧ Aside0 (wc.heap[gb119]? = some (.cells #[.int .i64 ((rd_T37 l1 x19_2).f0), .int .i64 ((rd_T37 l1 x19_2).f1), .int .i64 ((rd_T37 l1 x19_2).f2), .bool ((rd_T37 l1 x19_2).f3), .int .i64 ((rd_T37 l1 x19_2).f4)] 37 (0, 0))) ∧ Aside0 (Below w.heap.size w wc))
 case first =>
  have H := HC15.out
  clear HC15
  replace H := Option.bind_eq_some_iff.mp H
  obtain ⟨t120, A190, H⟩ := H
  have A19 := aM A190
  clear A190
  replace H := iB_ H
  rcases H with ⟨rfl, H⟩ | ⟨rfl, H⟩
  {
  replace H := iE_ H
  rcases H with ⟨c21b0, H⟩ | ⟨c21b0, H⟩
  {
  (first | rw [c21b0] | (simp only [i64_w, i32_w]; rw [c21b0]) | rw [@decide_eq_true _ _ (of_decide_eq_true c21b0)] | rw [@decide_eq_true _ _ (of_decide_eq_true c21b1)] | skip)
  obtain ⟨ji22, hji22⟩ : ∃ j_ : Int, (wrap64 (x19_2 - 1)) = j_ := ⟨_, rfl⟩
  replace H : (if 0 ≤ (ji22) then (if (ji22) < (l1.length : Int) then (if ((rd_T37 l1 (ji22)).f0) ≥ ((rd_T37 l1 x19_2).f0) then (impl_CrewOk.j2 k2 l1 x19_2 l1 (l1.length : Int) x19_2 true a0_0 a0_1 l0_2 ((rd_T37 l1 x19_2).f0) ((rd_T37 l1 x19_2).f1) ((rd_T37 l1 x19_2).f2) ((rd_T37 l1 x19_2).f3) ((rd_T37 l1 x19_2).f4)) else ((impl_standsOk.f k2 a0_0 a0_1 l0_2 ((rd_T37 l1 x19_2).f0) ((rd_T37 l1 x19_2).f1) ((rd_T37 l1 x19_2).f2) ((rd_T37 l1 x19_2).f3) ((rd_T37 l1 x19_2).f4)).bind fun t122 => (if t122 = true then ((impl_in.f ((rd_T37 l1 x19_2).f4) 0 1000000).bind fun t123 => (impl_CrewOk.j2 k2 l1 x19_2 l1 (l1.length : Int) x19_2 (!t123) a0_0 a0_1 l0_2 ((rd_T37 l1 x19_2).f0) ((rd_T37 l1 x19_2).f1) ((rd_T37 l1 x19_2).f2) ((rd_T37 l1 x19_2).f3) ((rd_T37 l1 x19_2).f4))) else (impl_CrewOk.j2 k2 l1 x19_2 l1 (l1.length : Int) x19_2 true a0_0 a0_1 l0_2 ((rd_T37 l1 x19_2).f0) ((rd_T37 l1 x19_2).f1) ((rd_T37 l1 x19_2).f2) ((rd_T37 l1 x19_2).f3) ((rd_T37 l1 x19_2).f4))))) else (none)) else (none)) = some r := by first | (rw [hji22] at H; exact H) | (simp only [hji22] at H ⊢; exact H)
  (try rw [hji22] at A19)
  have hji22w : (IntKind.i64.wrap (x19_2 - 1)) = ji22 := (i64_w _).trans hji22
  replace H := iD_ H
  obtain ⟨c23b0, H⟩ := H
  replace H := iD_ H
  obtain ⟨c24b0, H⟩ := H
  replace H := iE_ H
  rcases H with ⟨c25b0, H⟩ | ⟨c25b0, H⟩
  {
  have H' := aM H
  clear H
  try go_wp2
  generalize hq_ : (((((w16.setCell ⟨gb119, 0, none⟩ (.int .i64 ((rd_T37 l1 x19_2).f0))).setCell ⟨gb119, 1, none⟩ (.int .i64 ((rd_T37 l1 x19_2).f1))).setCell ⟨gb119, 2, none⟩ (.int .i64 ((rd_T37 l1 x19_2).f2))).setCell ⟨gb119, 3, none⟩ (.bool ((rd_T37 l1 x19_2).f3))).setCell ⟨gb119, 4, none⟩ (.int .i64 ((rd_T37 l1 x19_2).f4))) = w26
  replace BK116 := bqo_ hq_ BK116
  replace BK119 := bq5_ hq_ BK119
  replace HB : Aside0 (Below w.heap.size w w26) := ⟨by rw [← hq_]; exact qz1⟩
  clear hq_
  replace BK116 := aM (blk_drew BK116.out)
  replace BK119 := aM (blk_drew BK119.out)
  replace HB := aM (below_drew1 HB.out)
  have p121 : (0 ≤ ((ji22) : Int)) = True := et_
  have q121 : ((ji22) < (l1.length : Int)) = True := et_
  obtain ⟨ad121, e121, hx121_0, hx121_1, hx121_2, hx121_3, hx121_4⟩ := at_T37 HR1.out (ji22) dt_ dt_
  have hw121_4 := hx121_4
  have hw121_3 := hx121_3
  have hw121_2 := hx121_2
  have hw121_1 := hx121_1
  have hw121_0 := hx121_0
  obtain rfl : ad118 = ad121 := (by injection e121)
  replace hx121_0 := cB_ hx121_0
  replace hx121_1 := cB_ hx121_1
  replace hx121_2 := cB_ hx121_2
  replace hx121_3 := cB_ hx121_3
  replace hx121_4 := cB_ hx121_4
  refine start_ (n := 31) (S := fun w' => w'.cell? ⟨gb119, 0, none⟩ = some (.int .i64 ((rd_T37 l1 x19_2).f0)) ∧ w'.cell? ⟨gb119, 1, none⟩ = some (.int .i64 ((rd_T37 l1 x19_2).f1)) ∧ w'.cell? ⟨gb119, 2, none⟩ = some (.int .i64 ((rd_T37 l1 x19_2).f2)) ∧ w'.cell? ⟨gb119, 3, none⟩ = some (.bool ((rd_T37 l1 x19_2).f3)) ∧ w'.cell? ⟨gb119, 4, none⟩ = some (.int .i64 ((rd_T37 l1 x19_2).f4)) ∧ w'.cell? (ad118.add (((ji22)).toNat * 5)) = some (.int .i64 ((rd_T37 l1 (ji22)).f0)) ∧ w'.cell? ⟨(ad118.add (((ji22)).toNat * 5)).block, (ad118.add (((ji22)).toNat * 5)).off + 1, none⟩ = some (.int .i64 ((rd_T37 l1 (ji22)).f1)) ∧ w'.cell? ⟨(ad118.add (((ji22)).toNat * 5)).block, (ad118.add (((ji22)).toNat * 5)).off + 2, none⟩ = some (.int .i64 ((rd_T37 l1 (ji22)).f2)) ∧ w'.cell? ⟨(ad118.add (((ji22)).toNat * 5)).block, (ad118.add (((ji22)).toNat * 5)).off + 3, none⟩ = some (.bool ((rd_T37 l1 (ji22)).f3)) ∧ w'.cell? ⟨(ad118.add (((ji22)).toNat * 5)).block, (ad118.add (((ji22)).toNat * 5)).off + 4, none⟩ = some (.int .i64 ((rd_T37 l1 (ji22)).f4))) (ds := []) #[false, false, false, false, false, false, false, false, false, false, false, false, false, false, false, false, false, false, false, false, false, false, false, false, false, false, false, false, false, false, false] (by kernel_rfl) rfl rfl ⟨(blk_cell BK119.out 0).trans rfl, (blk_cell BK119.out 1).trans rfl, (blk_cell BK119.out 2).trans rfl, (blk_cell BK119.out 3).trans rfl, (blk_cell BK119.out 4).trans rfl, (cB_ hw121_0), (cB_ hw121_1), (cB_ hw121_2), (cB_ hw121_3), (cB_ hw121_4)⟩ (fun hHeld => ?_); refine with_tabW impl_CrewOk.tab6 impl_CrewOk.bits6 (fun HT_ HW_ => ?_)
  generalize w26.drew = w27 at BK116 BK119 HB hx121_0 hx121_1 hx121_2 hx121_3 hx121_4 hHeld ⊢
  refine pI_ 0 24 (bqz 31 1) ?_
  refine sI10_ 1 25 ?_
  refine oI_ 2 26 (bqz 31 7) (fun K hK => ?_)
  refine goes_ Try.func88 (by kernel_rfl) rfl #[.int .i64 ((rd_T37 l1 x19_2).f0), .int .i64 1, .int .i64 99] (by rfl) rfl rfl qz2 ?_
  with_reducible refine (impl_in.calls ((rd_T37 l1 x19_2).f0) 1 99 true _ A19.out).mono ?_
  rintro e w' ⟨rfl, ⟨nd, rfl⟩⟩
  refine ⟨_, rfl, ?_⟩
  refine hK.out _ _ (b5A_ BK119 ⟨(cB_ hw121_0), (cB_ hw121_1), (cB_ hw121_2), (cB_ hw121_3), (cB_ hw121_4)⟩) (fun hHeld => ?_)
  clear hK K
  refine nm_ 26 ?_
  refine jI_ 3 27 ?_
  refine jI_ 4 28 ?_
  refine jI_ 5 29 ?_
  refine jI_ 6 30 ?_
  refine jI_ 7 31 ?_
  refine jI_ 8 32 ?_
  refine jI_ 9 33 ?_
  refine jI_ 10 34 ?_
  refine jI_ 11 35 ?_
  refine jI_ 12 36 ?_
  refine jI_ 14 38 ?_
  refine sI10_ 13 37 ?_
  refine sI10_ 15 39 ?_
  refine jI_ 16 40 ?_
  refine jI_ 17 41 ?_
  refine jI_ 18 42 ?_
  refine jI_ 19 43 ?_
  refine jU_ 20 44 ?_
  refine jU_ 21 45 ?_
  refine jU_ 22 46 ?_
  refine jU_ 23 47 ?_
  refine jI_ 24 48 ?_
  refine jI_ 25 49 ?_
  refine jU_ 26 50 ?_
  refine jU_ 27 51 ?_
  refine jU_ 28 52 ?_
  refine jU_ 29 53 ?_
  refine jI_ 30 54 ?_
  refine done_ (done_of HT_.out (by kernel_rfl)) ?_
  try go_wp2
  go_meet
  case rel => exact ⟨_, (true), qz6, H', ⟨by have := HJ2.out; have := HK2.out; first | omega | exact Nat.le_refl _⟩, ⟨bk_ BK116.out⟩, ⟨bk_ BK119.out⟩, ⟨qz1⟩⟩
  }
  {
  replace H := Option.bind_eq_some_iff.mp H
  obtain ⟨t122, A280, H⟩ := H
  have A28 := aM A280
  clear A280
  replace H := iB_ H
  rcases H with ⟨rfl, H⟩ | ⟨rfl, H⟩
  {
  replace H := Option.bind_eq_some_iff.mp H
  obtain ⟨t123, A300, H⟩ := H
  have A30 := aM A300
  clear A300
  have H' := aM H
  clear H
  try go_wp2
  generalize hq_ : (((((w16.setCell ⟨gb119, 0, none⟩ (.int .i64 ((rd_T37 l1 x19_2).f0))).setCell ⟨gb119, 1, none⟩ (.int .i64 ((rd_T37 l1 x19_2).f1))).setCell ⟨gb119, 2, none⟩ (.int .i64 ((rd_T37 l1 x19_2).f2))).setCell ⟨gb119, 3, none⟩ (.bool ((rd_T37 l1 x19_2).f3))).setCell ⟨gb119, 4, none⟩ (.int .i64 ((rd_T37 l1 x19_2).f4))) = w31
  replace BK116 := bqo_ hq_ BK116
  replace BK119 := bq5_ hq_ BK119
  replace HB : Aside0 (Below w.heap.size w w31) := ⟨by rw [← hq_]; exact qz1⟩
  clear hq_
  replace BK116 := aM (blk_drew BK116.out)
  replace BK119 := aM (blk_drew BK119.out)
  replace HB := aM (below_drew1 HB.out)
  have p121 : (0 ≤ ((ji22) : Int)) = True := et_
  have q121 : ((ji22) < (l1.length : Int)) = True := et_
  obtain ⟨ad121, e121, hx121_0, hx121_1, hx121_2, hx121_3, hx121_4⟩ := at_T37 HR1.out (ji22) dt_ dt_
  have hw121_4 := hx121_4
  have hw121_3 := hx121_3
  have hw121_2 := hx121_2
  have hw121_1 := hx121_1
  have hw121_0 := hx121_0
  obtain rfl : ad118 = ad121 := (by injection e121)
  replace hx121_0 := cB_ hx121_0
  replace hx121_1 := cB_ hx121_1
  replace hx121_2 := cB_ hx121_2
  replace hx121_3 := cB_ hx121_3
  replace hx121_4 := cB_ hx121_4
  refine start_ (n := 31) (S := fun w' => w'.cell? ⟨gb119, 0, none⟩ = some (.int .i64 ((rd_T37 l1 x19_2).f0)) ∧ w'.cell? ⟨gb119, 1, none⟩ = some (.int .i64 ((rd_T37 l1 x19_2).f1)) ∧ w'.cell? ⟨gb119, 2, none⟩ = some (.int .i64 ((rd_T37 l1 x19_2).f2)) ∧ w'.cell? ⟨gb119, 3, none⟩ = some (.bool ((rd_T37 l1 x19_2).f3)) ∧ w'.cell? ⟨gb119, 4, none⟩ = some (.int .i64 ((rd_T37 l1 x19_2).f4)) ∧ w'.cell? ⟨gb116, 0, none⟩ = some (.int .i64 a0_0) ∧ w'.cell? ⟨gb116, 1, none⟩ = some (.int .i64 a0_1) ∧ w'.cell? ⟨gb116, 2, none⟩ = some (.slice A0_2 l0_2.length c0_2) ∧ w'.cell? (ad118.add (((ji22)).toNat * 5)) = some (.int .i64 ((rd_T37 l1 (ji22)).f0)) ∧ w'.cell? ⟨(ad118.add (((ji22)).toNat * 5)).block, (ad118.add (((ji22)).toNat * 5)).off + 1, none⟩ = some (.int .i64 ((rd_T37 l1 (ji22)).f1)) ∧ w'.cell? ⟨(ad118.add (((ji22)).toNat * 5)).block, (ad118.add (((ji22)).toNat * 5)).off + 2, none⟩ = some (.int .i64 ((rd_T37 l1 (ji22)).f2)) ∧ w'.cell? ⟨(ad118.add (((ji22)).toNat * 5)).block, (ad118.add (((ji22)).toNat * 5)).off + 3, none⟩ = some (.bool ((rd_T37 l1 (ji22)).f3)) ∧ w'.cell? ⟨(ad118.add (((ji22)).toNat * 5)).block, (ad118.add (((ji22)).toNat * 5)).off + 4, none⟩ = some (.int .i64 ((rd_T37 l1 (ji22)).f4))) (ds := []) #[false, false, false, false, false, false, false, false, false, false, false, false, false, false, false, false, false, false, false, false, false, false, false, false, false, false, false, false, false, false, false] (by kernel_rfl) rfl rfl ⟨(blk_cell BK119.out 0).trans rfl, (blk_cell BK119.out 1).trans rfl, (blk_cell BK119.out 2).trans rfl, (blk_cell BK119.out 3).trans rfl, (blk_cell BK119.out 4).trans rfl, (blk_cell BK116.out 0).trans rfl, (blk_cell BK116.out 1).trans rfl, (blk_cell BK116.out 2).trans rfl, (cB_ hw121_0), (cB_ hw121_1), (cB_ hw121_2), (cB_ hw121_3), (cB_ hw121_4)⟩ (fun hHeld => ?_); refine with_tabW impl_CrewOk.tab6 impl_CrewOk.bits6 (fun HT_ HW_ => ?_)
  generalize w31.drew = w32 at BK116 BK119 HB hx121_0 hx121_1 hx121_2 hx121_3 hx121_4 hHeld ⊢
  refine pI_ 0 24 (bqz 31 1) ?_
  refine sI13_ 1 25 ?_
  refine oI_ 2 26 (bqz 31 7) (fun K hK => ?_)
  refine goes_ Try.func88 (by kernel_rfl) rfl #[.int .i64 ((rd_T37 l1 x19_2).f0), .int .i64 1, .int .i64 99] (by rfl) rfl rfl qz2 ?_
  with_reducible refine (impl_in.calls ((rd_T37 l1 x19_2).f0) 1 99 true _ A19.out).mono ?_
  rintro e w' ⟨rfl, ⟨nd, rfl⟩⟩
  refine ⟨_, rfl, ?_⟩
  refine hK.out _ _ (b5A_ BK119 (b3A_ BK116 ⟨(cB_ hw121_0), (cB_ hw121_1), (cB_ hw121_2), (cB_ hw121_3), (cB_ hw121_4)⟩)) (fun hHeld => ?_)
  clear hK K
  refine nm_ 26 ?_
  refine jI_ 3 27 ?_
  refine jI_ 4 28 ?_
  refine jI_ 5 29 ?_
  refine jI_ 6 30 ?_
  refine jI_ 7 31 ?_
  refine jI_ 8 32 ?_
  refine jI_ 9 33 ?_
  refine jI_ 10 34 ?_
  refine jI_ 11 35 ?_
  refine jI_ 12 36 ?_
  refine jI_ 14 38 ?_
  refine sI13_ 13 37 ?_
  refine sI13_ 15 39 ?_
  refine jI_ 16 40 ?_
  refine jI_ 17 41 ?_
  refine jI_ 18 42 ?_
  refine jI_ 19 43 ?_
  refine sI13_ 20 44 ?_
  refine sI13_ 21 45 ?_
  refine oI_ 22 46 (bqz 31 8388607) (fun K hK => ?_)
  refine goes_ Try.func65 (by kernel_rfl) rfl #[.agg #[.int .i64 a0_0, .int .i64 a0_1, .slice A0_2 l0_2.length c0_2], .agg #[.int .i64 ((rd_T37 l1 x19_2).f0), .int .i64 ((rd_T37 l1 x19_2).f1), .int .i64 ((rd_T37 l1 x19_2).f2), .bool ((rd_T37 l1 x19_2).f3), .int .i64 ((rd_T37 l1 x19_2).f4)]] (by rfl) rfl rfl qz2 ?_
  with_reducible refine (impl_standsOk.calls k2 a0_0 a0_1 _ _ l0_2 ((rd_T37 l1 x19_2).f0) ((rd_T37 l1 x19_2).f1) ((rd_T37 l1 x19_2).f2) ((rd_T37 l1 x19_2).f3) ((rd_T37 l1 x19_2).f4) true _ ?side1 ?side2 A28.out).mono ?_
  (case side1 => exact qz18)
  (case side2 => exact qz14)
  rintro e w33 ⟨rfl, hb⟩
  refine ⟨_, rfl, ?_⟩
  replace BK116 := bB_ BK116 hb
  replace BK119 := bB_ BK119 hb
  replace HB := bS_ hb
  (try clear hb)
  (try clear hb2)
  (try clear hk)
  (try clear hi)
  refine hK.out _ _ (b5A_ BK119 (b3A_ BK116 ⟨(cB_ hw121_0), (cB_ hw121_1), (cB_ hw121_2), (cB_ hw121_3), (cB_ hw121_4)⟩)) (fun hHeld => ?_)
  clear hK K
  refine nm_ 46 ?_
  refine pI_ 23 47 (bqz 31 16777215) ?_
  refine jI_ 24 48 ?_
  refine jI_ 25 49 ?_
  refine jI_ 26 50 ?_
  refine sI13_ 27 51 ?_
  refine oI_ 28 52 (bqz 31 536870911) (fun K hK => ?_)
  refine goes_ Try.func88 (by kernel_rfl) rfl #[.int .i64 ((rd_T37 l1 x19_2).f4), .int .i64 0, .int .i64 1000000] (by rfl) rfl rfl qz2 ?_
  with_reducible refine (impl_in.calls ((rd_T37 l1 x19_2).f4) 0 1000000 t123 _ A30.out).mono ?_
  rintro e w' ⟨rfl, ⟨nd, rfl⟩⟩
  refine ⟨_, rfl, ?_⟩
  refine hK.out _ _ (b5A_ BK119 (b3A_ BK116 ⟨(cB_ hw121_0), (cB_ hw121_1), (cB_ hw121_2), (cB_ hw121_3), (cB_ hw121_4)⟩)) (fun hHeld => ?_)
  clear hK K
  refine nm_ 52 ?_
  refine jI_ 29 53 ?_
  refine jI_ 30 54 ?_
  refine done_ (done_of HT_.out (by kernel_rfl)) ?_
  try go_wp2
  go_meet
  case rel => exact ⟨_, (!t123), qz6, H', ⟨by have := HJ2.out; have := HK2.out; first | omega | exact Nat.le_refl _⟩, ⟨bk_ BK116.out⟩, ⟨bk_ BK119.out⟩, ⟨qz1⟩⟩
  }
  {
  have H' := aM H
  clear H
  try go_wp2
  generalize hq_ : (((((w16.setCell ⟨gb119, 0, none⟩ (.int .i64 ((rd_T37 l1 x19_2).f0))).setCell ⟨gb119, 1, none⟩ (.int .i64 ((rd_T37 l1 x19_2).f1))).setCell ⟨gb119, 2, none⟩ (.int .i64 ((rd_T37 l1 x19_2).f2))).setCell ⟨gb119, 3, none⟩ (.bool ((rd_T37 l1 x19_2).f3))).setCell ⟨gb119, 4, none⟩ (.int .i64 ((rd_T37 l1 x19_2).f4))) = w34
  replace BK116 := bqo_ hq_ BK116
  replace BK119 := bq5_ hq_ BK119
  replace HB : Aside0 (Below w.heap.size w w34) := ⟨by rw [← hq_]; exact qz1⟩
  clear hq_
  replace BK116 := aM (blk_drew BK116.out)
  replace BK119 := aM (blk_drew BK119.out)
  replace HB := aM (below_drew1 HB.out)
  have p121 : (0 ≤ ((ji22) : Int)) = True := et_
  have q121 : ((ji22) < (l1.length : Int)) = True := et_
  obtain ⟨ad121, e121, hx121_0, hx121_1, hx121_2, hx121_3, hx121_4⟩ := at_T37 HR1.out (ji22) dt_ dt_
  have hw121_4 := hx121_4
  have hw121_3 := hx121_3
  have hw121_2 := hx121_2
  have hw121_1 := hx121_1
  have hw121_0 := hx121_0
  obtain rfl : ad118 = ad121 := (by injection e121)
  replace hx121_0 := cB_ hx121_0
  replace hx121_1 := cB_ hx121_1
  replace hx121_2 := cB_ hx121_2
  replace hx121_3 := cB_ hx121_3
  replace hx121_4 := cB_ hx121_4
  refine start_ (n := 31) (S := fun w' => w'.cell? ⟨gb119, 0, none⟩ = some (.int .i64 ((rd_T37 l1 x19_2).f0)) ∧ w'.cell? ⟨gb119, 1, none⟩ = some (.int .i64 ((rd_T37 l1 x19_2).f1)) ∧ w'.cell? ⟨gb119, 2, none⟩ = some (.int .i64 ((rd_T37 l1 x19_2).f2)) ∧ w'.cell? ⟨gb119, 3, none⟩ = some (.bool ((rd_T37 l1 x19_2).f3)) ∧ w'.cell? ⟨gb119, 4, none⟩ = some (.int .i64 ((rd_T37 l1 x19_2).f4)) ∧ w'.cell? ⟨gb116, 0, none⟩ = some (.int .i64 a0_0) ∧ w'.cell? ⟨gb116, 1, none⟩ = some (.int .i64 a0_1) ∧ w'.cell? ⟨gb116, 2, none⟩ = some (.slice A0_2 l0_2.length c0_2) ∧ w'.cell? (ad118.add (((ji22)).toNat * 5)) = some (.int .i64 ((rd_T37 l1 (ji22)).f0)) ∧ w'.cell? ⟨(ad118.add (((ji22)).toNat * 5)).block, (ad118.add (((ji22)).toNat * 5)).off + 1, none⟩ = some (.int .i64 ((rd_T37 l1 (ji22)).f1)) ∧ w'.cell? ⟨(ad118.add (((ji22)).toNat * 5)).block, (ad118.add (((ji22)).toNat * 5)).off + 2, none⟩ = some (.int .i64 ((rd_T37 l1 (ji22)).f2)) ∧ w'.cell? ⟨(ad118.add (((ji22)).toNat * 5)).block, (ad118.add (((ji22)).toNat * 5)).off + 3, none⟩ = some (.bool ((rd_T37 l1 (ji22)).f3)) ∧ w'.cell? ⟨(ad118.add (((ji22)).toNat * 5)).block, (ad118.add (((ji22)).toNat * 5)).off + 4, none⟩ = some (.int .i64 ((rd_T37 l1 (ji22)).f4))) (ds := []) #[false, false, false, false, false, false, false, false, false, false, false, false, false, false, false, false, false, false, false, false, false, false, false, false, false, false, false, false, false, false, false] (by kernel_rfl) rfl rfl ⟨(blk_cell BK119.out 0).trans rfl, (blk_cell BK119.out 1).trans rfl, (blk_cell BK119.out 2).trans rfl, (blk_cell BK119.out 3).trans rfl, (blk_cell BK119.out 4).trans rfl, (blk_cell BK116.out 0).trans rfl, (blk_cell BK116.out 1).trans rfl, (blk_cell BK116.out 2).trans rfl, (cB_ hw121_0), (cB_ hw121_1), (cB_ hw121_2), (cB_ hw121_3), (cB_ hw121_4)⟩ (fun hHeld => ?_); refine with_tabW impl_CrewOk.tab6 impl_CrewOk.bits6 (fun HT_ HW_ => ?_)
  generalize w34.drew = w35 at BK116 BK119 HB hx121_0 hx121_1 hx121_2 hx121_3 hx121_4 hHeld ⊢
  refine pI_ 0 24 (bqz 31 1) ?_
  refine sI13_ 1 25 ?_
  refine oI_ 2 26 (bqz 31 7) (fun K hK => ?_)
  refine goes_ Try.func88 (by kernel_rfl) rfl #[.int .i64 ((rd_T37 l1 x19_2).f0), .int .i64 1, .int .i64 99] (by rfl) rfl rfl qz2 ?_
  with_reducible refine (impl_in.calls ((rd_T37 l1 x19_2).f0) 1 99 true _ A19.out).mono ?_
  rintro e w' ⟨rfl, ⟨nd, rfl⟩⟩
  refine ⟨_, rfl, ?_⟩
  refine hK.out _ _ (b5A_ BK119 (b3A_ BK116 ⟨(cB_ hw121_0), (cB_ hw121_1), (cB_ hw121_2), (cB_ hw121_3), (cB_ hw121_4)⟩)) (fun hHeld => ?_)
  clear hK K
  refine nm_ 26 ?_
  refine jI_ 3 27 ?_
  refine jI_ 4 28 ?_
  refine jI_ 5 29 ?_
  refine jI_ 6 30 ?_
  refine jI_ 7 31 ?_
  refine jI_ 8 32 ?_
  refine jI_ 9 33 ?_
  refine jI_ 10 34 ?_
  refine jI_ 11 35 ?_
  refine jI_ 12 36 ?_
  refine jI_ 14 38 ?_
  refine sI13_ 13 37 ?_
  refine sI13_ 15 39 ?_
  refine jI_ 16 40 ?_
  refine jI_ 17 41 ?_
  refine jI_ 18 42 ?_
  refine jI_ 19 43 ?_
  refine sI13_ 20 44 ?_
  refine sI13_ 21 45 ?_
  refine oI_ 22 46 (bqz 31 8388607) (fun K hK => ?_)
  refine goes_ Try.func65 (by kernel_rfl) rfl #[.agg #[.int .i64 a0_0, .int .i64 a0_1, .slice A0_2 l0_2.length c0_2], .agg #[.int .i64 ((rd_T37 l1 x19_2).f0), .int .i64 ((rd_T37 l1 x19_2).f1), .int .i64 ((rd_T37 l1 x19_2).f2), .bool ((rd_T37 l1 x19_2).f3), .int .i64 ((rd_T37 l1 x19_2).f4)]] (by rfl) rfl rfl qz2 ?_
  with_reducible refine (impl_standsOk.calls k2 a0_0 a0_1 _ _ l0_2 ((rd_T37 l1 x19_2).f0) ((rd_T37 l1 x19_2).f1) ((rd_T37 l1 x19_2).f2) ((rd_T37 l1 x19_2).f3) ((rd_T37 l1 x19_2).f4) false _ ?side1 ?side2 A28.out).mono ?_
  (case side1 => exact qz18)
  (case side2 => exact qz14)
  rintro e w36 ⟨rfl, hb⟩
  refine ⟨_, rfl, ?_⟩
  replace BK116 := bB_ BK116 hb
  replace BK119 := bB_ BK119 hb
  replace HB := bS_ hb
  (try clear hb)
  (try clear hb2)
  (try clear hk)
  (try clear hi)
  refine hK.out _ _ (b5A_ BK119 (b3A_ BK116 ⟨(cB_ hw121_0), (cB_ hw121_1), (cB_ hw121_2), (cB_ hw121_3), (cB_ hw121_4)⟩)) (fun hHeld => ?_)
  clear hK K
  refine nm_ 46 ?_
  refine pI_ 23 47 (bqz 31 16777215) ?_
  refine jI_ 24 48 ?_
  refine jI_ 25 49 ?_
  refine jU_ 26 50 ?_
  refine jU_ 27 51 ?_
  refine jU_ 28 52 ?_
  refine jU_ 29 53 ?_
  refine jI_ 30 54 ?_
  refine done_ (done_of HT_.out (by kernel_rfl)) ?_
  try go_wp2
  go_meet
  case rel => exact ⟨_, (true), qz6, H', ⟨by have := HJ2.out; have := HK2.out; first | omega | exact Nat.le_refl _⟩, ⟨bk_ BK116.out⟩, ⟨bk_ BK119.out⟩, ⟨qz1⟩⟩
  }
  }
  }
  {
  (first | rw [c21b0] | (simp only [i64_w, i32_w]; rw [c21b0]) | rw [@decide_eq_false _ _ (of_decide_eq_false c21b0)] | rw [@decide_eq_false _ _ (of_decide_eq_false c21b1)] | skip)
  replace H := Option.bind_eq_some_iff.mp H
  obtain ⟨t124, A370, H⟩ := H
  have A37 := aM A370
  clear A370
  replace H := iB_ H
  rcases H with ⟨rfl, H⟩ | ⟨rfl, H⟩
  {
  replace H := Option.bind_eq_some_iff.mp H
  obtain ⟨t125, A390, H⟩ := H
  have A39 := aM A390
  clear A390
  have H' := aM H
  clear H
  try go_wp2
  generalize hq_ : (((((w16.setCell ⟨gb119, 0, none⟩ (.int .i64 ((rd_T37 l1 x19_2).f0))).setCell ⟨gb119, 1, none⟩ (.int .i64 ((rd_T37 l1 x19_2).f1))).setCell ⟨gb119, 2, none⟩ (.int .i64 ((rd_T37 l1 x19_2).f2))).setCell ⟨gb119, 3, none⟩ (.bool ((rd_T37 l1 x19_2).f3))).setCell ⟨gb119, 4, none⟩ (.int .i64 ((rd_T37 l1 x19_2).f4))) = w40
  replace BK116 := bqo_ hq_ BK116
  replace BK119 := bq5_ hq_ BK119
  replace HB : Aside0 (Below w.heap.size w w40) := ⟨by rw [← hq_]; exact qz1⟩
  clear hq_
  replace BK116 := aM (blk_drew BK116.out)
  replace BK119 := aM (blk_drew BK119.out)
  replace HB := aM (below_drew1 HB.out)
  refine start_ (n := 31) (S := fun w' => w'.cell? ⟨gb119, 0, none⟩ = some (.int .i64 ((rd_T37 l1 x19_2).f0)) ∧ w'.cell? ⟨gb119, 1, none⟩ = some (.int .i64 ((rd_T37 l1 x19_2).f1)) ∧ w'.cell? ⟨gb119, 2, none⟩ = some (.int .i64 ((rd_T37 l1 x19_2).f2)) ∧ w'.cell? ⟨gb119, 3, none⟩ = some (.bool ((rd_T37 l1 x19_2).f3)) ∧ w'.cell? ⟨gb119, 4, none⟩ = some (.int .i64 ((rd_T37 l1 x19_2).f4)) ∧ w'.cell? ⟨gb116, 0, none⟩ = some (.int .i64 a0_0) ∧ w'.cell? ⟨gb116, 1, none⟩ = some (.int .i64 a0_1) ∧ w'.cell? ⟨gb116, 2, none⟩ = some (.slice A0_2 l0_2.length c0_2)) (ds := []) #[false, false, false, false, false, false, false, false, false, false, false, false, false, false, false, false, false, false, false, false, false, false, false, false, false, false, false, false, false, false, false] (by kernel_rfl) rfl rfl ⟨(blk_cell BK119.out 0).trans rfl, (blk_cell BK119.out 1).trans rfl, (blk_cell BK119.out 2).trans rfl, (blk_cell BK119.out 3).trans rfl, (blk_cell BK119.out 4).trans rfl, (blk_cell BK116.out 0).trans rfl, (blk_cell BK116.out 1).trans rfl, (blk_cell BK116.out 2).trans rfl⟩ (fun hHeld => ?_); refine with_tabW impl_CrewOk.tab6 impl_CrewOk.bits6 (fun HT_ HW_ => ?_)
  generalize w40.drew = w41 at BK116 BK119 HB hHeld ⊢
  refine pI_ 0 24 (bqz 31 1) ?_
  refine sI8_ 1 25 ?_
  refine oI_ 2 26 (bqz 31 7) (fun K hK => ?_)
  refine goes_ Try.func88 (by kernel_rfl) rfl #[.int .i64 ((rd_T37 l1 x19_2).f0), .int .i64 1, .int .i64 99] (by rfl) rfl rfl qz2 ?_
  with_reducible refine (impl_in.calls ((rd_T37 l1 x19_2).f0) 1 99 true _ A19.out).mono ?_
  rintro e w' ⟨rfl, ⟨nd, rfl⟩⟩
  refine ⟨_, rfl, ?_⟩
  refine hK.out _ _ (b5A_ BK119 ⟨(blk_cell BK116.out 0).trans rfl, (blk_cell BK116.out 1).trans rfl, (blk_cell BK116.out 2).trans rfl⟩) (fun hHeld => ?_)
  clear hK K
  refine nm_ 26 ?_
  refine jI_ 3 27 ?_
  refine jI_ 4 28 ?_
  refine jI_ 5 29 ?_
  refine jI_ 6 30 ?_
  refine jI_ 7 31 ?_
  refine jU_ 8 32 ?_
  refine jU_ 9 33 ?_
  refine jU_ 10 34 ?_
  refine jU_ 11 35 ?_
  refine jU_ 12 36 ?_
  refine jU_ 13 37 ?_
  refine jU_ 14 38 ?_
  refine jU_ 15 39 ?_
  refine jU_ 16 40 ?_
  refine jI_ 17 41 ?_
  refine jI_ 18 42 ?_
  refine jI_ 19 43 ?_
  refine sI8_ 20 44 ?_
  refine sI8_ 21 45 ?_
  refine oI_ 22 46 (bqz 31 8388607) (fun K hK => ?_)
  refine goes_ Try.func65 (by kernel_rfl) rfl #[.agg #[.int .i64 a0_0, .int .i64 a0_1, .slice A0_2 l0_2.length c0_2], .agg #[.int .i64 ((rd_T37 l1 x19_2).f0), .int .i64 ((rd_T37 l1 x19_2).f1), .int .i64 ((rd_T37 l1 x19_2).f2), .bool ((rd_T37 l1 x19_2).f3), .int .i64 ((rd_T37 l1 x19_2).f4)]] (by rfl) rfl rfl qz2 ?_
  with_reducible refine (impl_standsOk.calls k2 a0_0 a0_1 _ _ l0_2 ((rd_T37 l1 x19_2).f0) ((rd_T37 l1 x19_2).f1) ((rd_T37 l1 x19_2).f2) ((rd_T37 l1 x19_2).f3) ((rd_T37 l1 x19_2).f4) true _ ?side1 ?side2 A37.out).mono ?_
  (case side1 => exact qz18)
  (case side2 => exact qz14)
  rintro e w42 ⟨rfl, hb⟩
  refine ⟨_, rfl, ?_⟩
  replace BK116 := bB_ BK116 hb
  replace BK119 := bB_ BK119 hb
  replace HB := bS_ hb
  (try clear hb)
  (try clear hb2)
  (try clear hk)
  (try clear hi)
  refine hK.out _ _ (b5A_ BK119 ⟨(blk_cell BK116.out 0).trans rfl, (blk_cell BK116.out 1).trans rfl, (blk_cell BK116.out 2).trans rfl⟩) (fun hHeld => ?_)
  clear hK K
  refine nm_ 46 ?_
  refine pI_ 23 47 (bqz 31 16777215) ?_
  refine jI_ 24 48 ?_
  refine jI_ 25 49 ?_
  refine jI_ 26 50 ?_
  refine sI8_ 27 51 ?_
  refine oI_ 28 52 (bqz 31 536870911) (fun K hK => ?_)
  refine goes_ Try.func88 (by kernel_rfl) rfl #[.int .i64 ((rd_T37 l1 x19_2).f4), .int .i64 0, .int .i64 1000000] (by rfl) rfl rfl qz2 ?_
  with_reducible refine (impl_in.calls ((rd_T37 l1 x19_2).f4) 0 1000000 t125 _ A39.out).mono ?_
  rintro e w' ⟨rfl, ⟨nd, rfl⟩⟩
  refine ⟨_, rfl, ?_⟩
  refine hK.out _ _ (b5A_ BK119 ⟨(blk_cell BK116.out 0).trans rfl, (blk_cell BK116.out 1).trans rfl, (blk_cell BK116.out 2).trans rfl⟩) (fun hHeld => ?_)
  clear hK K
  refine nm_ 52 ?_
  refine jI_ 29 53 ?_
  refine jI_ 30 54 ?_
  refine done_ (done_of HT_.out (by kernel_rfl)) ?_
  try go_wp2
  go_meet
  case rel => exact ⟨_, (!t125), qz6, H', ⟨by have := HJ2.out; have := HK2.out; first | omega | exact Nat.le_refl _⟩, ⟨bk_ BK116.out⟩, ⟨bk_ BK119.out⟩, ⟨qz1⟩⟩
  }
  {
  have H' := aM H
  clear H
  try go_wp2
  generalize hq_ : (((((w16.setCell ⟨gb119, 0, none⟩ (.int .i64 ((rd_T37 l1 x19_2).f0))).setCell ⟨gb119, 1, none⟩ (.int .i64 ((rd_T37 l1 x19_2).f1))).setCell ⟨gb119, 2, none⟩ (.int .i64 ((rd_T37 l1 x19_2).f2))).setCell ⟨gb119, 3, none⟩ (.bool ((rd_T37 l1 x19_2).f3))).setCell ⟨gb119, 4, none⟩ (.int .i64 ((rd_T37 l1 x19_2).f4))) = w43
  replace BK116 := bqo_ hq_ BK116
  replace BK119 := bq5_ hq_ BK119
  replace HB : Aside0 (Below w.heap.size w w43) := ⟨by rw [← hq_]; exact qz1⟩
  clear hq_
  replace BK116 := aM (blk_drew BK116.out)
  replace BK119 := aM (blk_drew BK119.out)
  replace HB := aM (below_drew1 HB.out)
  refine start_ (n := 31) (S := fun w' => w'.cell? ⟨gb119, 0, none⟩ = some (.int .i64 ((rd_T37 l1 x19_2).f0)) ∧ w'.cell? ⟨gb119, 1, none⟩ = some (.int .i64 ((rd_T37 l1 x19_2).f1)) ∧ w'.cell? ⟨gb119, 2, none⟩ = some (.int .i64 ((rd_T37 l1 x19_2).f2)) ∧ w'.cell? ⟨gb119, 3, none⟩ = some (.bool ((rd_T37 l1 x19_2).f3)) ∧ w'.cell? ⟨gb119, 4, none⟩ = some (.int .i64 ((rd_T37 l1 x19_2).f4)) ∧ w'.cell? ⟨gb116, 0, none⟩ = some (.int .i64 a0_0) ∧ w'.cell? ⟨gb116, 1, none⟩ = some (.int .i64 a0_1) ∧ w'.cell? ⟨gb116, 2, none⟩ = some (.slice A0_2 l0_2.length c0_2)) (ds := []) #[false, false, false, false, false, false, false, false, false, false, false, false, false, false, false, false, false, false, false, false, false, false, false, false, false, false, false, false, false, false, false] (by kernel_rfl) rfl rfl ⟨(blk_cell BK119.out 0).trans rfl, (blk_cell BK119.out 1).trans rfl, (blk_cell BK119.out 2).trans rfl, (blk_cell BK119.out 3).trans rfl, (blk_cell BK119.out 4).trans rfl, (blk_cell BK116.out 0).trans rfl, (blk_cell BK116.out 1).trans rfl, (blk_cell BK116.out 2).trans rfl⟩ (fun hHeld => ?_); refine with_tabW impl_CrewOk.tab6 impl_CrewOk.bits6 (fun HT_ HW_ => ?_)
  generalize w43.drew = w44 at BK116 BK119 HB hHeld ⊢
  refine pI_ 0 24 (bqz 31 1) ?_
  refine sI8_ 1 25 ?_
  refine oI_ 2 26 (bqz 31 7) (fun K hK => ?_)
  refine goes_ Try.func88 (by kernel_rfl) rfl #[.int .i64 ((rd_T37 l1 x19_2).f0), .int .i64 1, .int .i64 99] (by rfl) rfl rfl qz2 ?_
  with_reducible refine (impl_in.calls ((rd_T37 l1 x19_2).f0) 1 99 true _ A19.out).mono ?_
  rintro e w' ⟨rfl, ⟨nd, rfl⟩⟩
  refine ⟨_, rfl, ?_⟩
  refine hK.out _ _ (b5A_ BK119 ⟨(blk_cell BK116.out 0).trans rfl, (blk_cell BK116.out 1).trans rfl, (blk_cell BK116.out 2).trans rfl⟩) (fun hHeld => ?_)
  clear hK K
  refine nm_ 26 ?_
  refine jI_ 3 27 ?_
  refine jI_ 4 28 ?_
  refine jI_ 5 29 ?_
  refine jI_ 6 30 ?_
  refine jI_ 7 31 ?_
  refine jU_ 8 32 ?_
  refine jU_ 9 33 ?_
  refine jU_ 10 34 ?_
  refine jU_ 11 35 ?_
  refine jU_ 12 36 ?_
  refine jU_ 13 37 ?_
  refine jU_ 14 38 ?_
  refine jU_ 15 39 ?_
  refine jU_ 16 40 ?_
  refine jI_ 17 41 ?_
  refine jI_ 18 42 ?_
  refine jI_ 19 43 ?_
  refine sI8_ 20 44 ?_
  refine sI8_ 21 45 ?_
  refine oI_ 22 46 (bqz 31 8388607) (fun K hK => ?_)
  refine goes_ Try.func65 (by kernel_rfl) rfl #[.agg #[.int .i64 a0_0, .int .i64 a0_1, .slice A0_2 l0_2.length c0_2], .agg #[.int .i64 ((rd_T37 l1 x19_2).f0), .int .i64 ((rd_T37 l1 x19_2).f1), .int .i64 ((rd_T37 l1 x19_2).f2), .bool ((rd_T37 l1 x19_2).f3), .int .i64 ((rd_T37 l1 x19_2).f4)]] (by rfl) rfl rfl qz2 ?_
  with_reducible refine (impl_standsOk.calls k2 a0_0 a0_1 _ _ l0_2 ((rd_T37 l1 x19_2).f0) ((rd_T37 l1 x19_2).f1) ((rd_T37 l1 x19_2).f2) ((rd_T37 l1 x19_2).f3) ((rd_T37 l1 x19_2).f4) false _ ?side1 ?side2 A37.out).mono ?_
  (case side1 => exact qz18)
  (case side2 => exact qz14)
  rintro e w45 ⟨rfl, hb⟩
  refine ⟨_, rfl, ?_⟩
  replace BK116 := bB_ BK116 hb
  replace BK119 := bB_ BK119 hb
  replace HB := bS_ hb
  (try clear hb)
  (try clear hb2)
  (try clear hk)
  (try clear hi)
  refine hK.out _ _ (b5A_ BK119 ⟨(blk_cell BK116.out 0).trans rfl, (blk_cell BK116.out 1).trans rfl, (blk_cell BK116.out 2).trans rfl⟩) (fun hHeld => ?_)
  clear hK K
  refine nm_ 46 ?_
  refine pI_ 23 47 (bqz 31 16777215) ?_
  refine jI_ 24 48 ?_
  refine jI_ 25 49 ?_
  refine jU_ 26 50 ?_
  refine jU_ 27 51 ?_
  refine jU_ 28 52 ?_
  refine jU_ 29 53 ?_
  refine jI_ 30 54 ?_
  refine done_ (done_of HT_.out (by kernel_rfl)) ?_
  try go_wp2
  go_meet
  case rel => exact ⟨_, (true), qz6, H', ⟨by have := HJ2.out; have := HK2.out; first | omega | exact Nat.le_refl _⟩, ⟨bk_ BK116.out⟩, ⟨bk_ BK119.out⟩, ⟨qz1⟩⟩
  }
  }
  }
  {
  have H' := aM H
  clear H
  try go_wp2
  generalize hq_ : (((((w16.setCell ⟨gb119, 0, none⟩ (.int .i64 ((rd_T37 l1 x19_2).f0))).setCell ⟨gb119, 1, none⟩ (.int .i64 ((rd_T37 l1 x19_2).f1))).setCell ⟨gb119, 2, none⟩ (.int .i64 ((rd_T37 l1 x19_2).f2))).setCell ⟨gb119, 3, none⟩ (.bool ((rd_T37 l1 x19_2).f3))).setCell ⟨gb119, 4, none⟩ (.int .i64 ((rd_T37 l1 x19_2).f4))) = w46
  replace BK116 := bqo_ hq_ BK116
  replace BK119 := bq5_ hq_ BK119
  replace HB : Aside0 (Below w.heap.size w w46) := ⟨by rw [← hq_]; exact qz1⟩
  clear hq_
  replace BK116 := aM (blk_drew BK116.out)
  replace BK119 := aM (blk_drew BK119.out)
  replace HB := aM (below_drew1 HB.out)
  refine start_ (n := 31) (S := fun w' => w'.cell? ⟨gb119, 0, none⟩ = some (.int .i64 ((rd_T37 l1 x19_2).f0)) ∧ w'.cell? ⟨gb119, 1, none⟩ = some (.int .i64 ((rd_T37 l1 x19_2).f1)) ∧ w'.cell? ⟨gb119, 2, none⟩ = some (.int .i64 ((rd_T37 l1 x19_2).f2)) ∧ w'.cell? ⟨gb119, 3, none⟩ = some (.bool ((rd_T37 l1 x19_2).f3)) ∧ w'.cell? ⟨gb119, 4, none⟩ = some (.int .i64 ((rd_T37 l1 x19_2).f4))) (ds := []) #[false, false, false, false, false, false, false, false, false, false, false, false, false, false, false, false, false, false, false, false, false, false, false, false, false, false, false, false, false, false, false] (by kernel_rfl) rfl rfl ⟨(blk_cell BK119.out 0).trans rfl, (blk_cell BK119.out 1).trans rfl, (blk_cell BK119.out 2).trans rfl, (blk_cell BK119.out 3).trans rfl, (blk_cell BK119.out 4).trans rfl⟩ (fun hHeld => ?_); refine with_tabW impl_CrewOk.tab6 impl_CrewOk.bits6 (fun HT_ HW_ => ?_)
  generalize w46.drew = w47 at BK116 BK119 HB hHeld ⊢
  refine pI_ 0 24 (bqz 31 1) ?_
  refine sI5_ 1 25 ?_
  refine oI_ 2 26 (bqz 31 7) (fun K hK => ?_)
  refine goes_ Try.func88 (by kernel_rfl) rfl #[.int .i64 ((rd_T37 l1 x19_2).f0), .int .i64 1, .int .i64 99] (by rfl) rfl rfl qz2 ?_
  with_reducible refine (impl_in.calls ((rd_T37 l1 x19_2).f0) 1 99 false _ A19.out).mono ?_
  rintro e w' ⟨rfl, ⟨nd, rfl⟩⟩
  refine ⟨_, rfl, ?_⟩
  refine hK.out _ _ ⟨(blk_cell BK119.out 0).trans rfl, (blk_cell BK119.out 1).trans rfl, (blk_cell BK119.out 2).trans rfl, (blk_cell BK119.out 3).trans rfl, (blk_cell BK119.out 4).trans rfl⟩ (fun hHeld => ?_)
  clear hK K
  refine nm_ 26 ?_
  refine jI_ 3 27 ?_
  refine jI_ 4 28 ?_
  refine jU_ 5 29 ?_
  refine jU_ 6 30 ?_
  refine jU_ 7 31 ?_
  refine jU_ 8 32 ?_
  refine jU_ 9 33 ?_
  refine jU_ 10 34 ?_
  refine jU_ 11 35 ?_
  refine jU_ 12 36 ?_
  refine jU_ 13 37 ?_
  refine jU_ 14 38 ?_
  refine jU_ 15 39 ?_
  refine jU_ 16 40 ?_
  refine jU_ 17 41 ?_
  refine jI_ 18 42 ?_
  refine jI_ 19 43 ?_
  refine jU_ 20 44 ?_
  refine jU_ 21 45 ?_
  refine jU_ 22 46 ?_
  refine jU_ 23 47 ?_
  refine jI_ 24 48 ?_
  refine jI_ 25 49 ?_
  refine jU_ 26 50 ?_
  refine jU_ 27 51 ?_
  refine jU_ 28 52 ?_
  refine jU_ 29 53 ?_
  refine jI_ 30 54 ?_
  refine done_ (done_of HT_.out (by kernel_rfl)) ?_
  try go_wp2
  go_meet
  case rel => exact ⟨_, (true), qz6, H', ⟨by have := HJ2.out; have := HK2.out; first | omega | exact Nat.le_refl _⟩, ⟨bk_ BK116.out⟩, ⟨bk_ BK119.out⟩, ⟨qz1⟩⟩
  }
 case rest =>
 clear HC15
 obtain ⟨kq, x54_14, rfl, HA, HJ14, BK116, BK119, HB⟩ := hcut
 cases kq with
 | zero => exact absurd HA.out (by simp [impl_CrewOk.j2])
 | succ kj14 =>
 have H := HA.out
 clear HA
 simp only [impl_CrewOk.j2] at H
 replace H := iB_ H
 rcases H with ⟨rfl, H⟩ | ⟨rfl, H⟩
 {
 obtain rfl := Option.some.inj H
 go_wp2
 go_ret
 exact ⟨qzw, qz1⟩
 }
 {
 replace H := iN_ H
 obtain ⟨c49, H⟩ := H
 have c49b0 := eq_true c49
 have c49b1 := decide_eq_true c49
 clear c49
 replace H := iN_ H
 obtain ⟨c50, H⟩ := H
 have c50b0 := eq_true c50
 have c50b1 := decide_eq_true c50
 clear c50
 obtain ⟨y126, hy126⟩ : ∃ y_ : List (S37), y_ = (l1.take (x19_2 : Int).toNat) := ⟨_, rfl⟩
 replace H := yB_ hy126 H
 have Ny126 := aM hy126
 clear hy126
 have H' := aM H
 clear H
 have q51 : (x19_2 : Int) ≤ ((l1.length : Int) : Int) := dt_
 obtain ⟨i051, hi051, _, hsz51, _⟩ := info_parts info37
 have hroom51 : l1.length ≤ c1 := HC1.out
 have hC51 : Kd.C k37 _ (some ad118) l1.length l1 := HR1.out
 have hcut51 := cut_to (P := Try.prog) 26 37 .i64 Try.underlying26 hi051 (some ad118) l1.length c1 x19_2 (dt_) q51 hroom51
 have hr51 := Kd.C_take (m := (x19_2 : Int).toNat) hC51 (by omega)
 have hy51 : y126.length = (x19_2 : Int).toNat := (by rw [Ny126.out, List.length_take]; omega)
 rw [← Ny126.out] at hr51
 rw [← hy51] at hcut51
 have HR129 := aM hr51
 have HC129 := aM (show y126.length ≤ c1 from by omega)
 clear hr51 hC51 hroom51 hi051 hsz51
 have KY51 := aM hy51
 clear hy51
 replace q51 := eq_true q51
 go_wp2
 go_loopg [59] kj14 (fun kq v59 w' => ∃ (x59_4 : Int), v59 = .int .i64 x59_4 ∧ Aside0 (impl_CrewOk.l1 kq l1 l1 (l1.length : Int) x19_2 y126 (y126.length : Int) x59_4 a0_0 a0_1 l0_2 ((rd_T37 l1 x19_2).f0) ((rd_T37 l1 x19_2).f1) ((rd_T37 l1 x19_2).f2) ((rd_T37 l1 x19_2).f3) ((rd_T37 l1 x19_2).f4) = some r) ∧ Aside0 (kq ≤ kj14) ∧ Aside0 (w'.heap[gb116]? = some (.cells #[.int .i64 a0_0, .int .i64 a0_1, (.slice A0_2 l0_2.length c0_2)] 43 (0, 0))) ∧ Aside0 (w'.heap[gb119]? = some (.cells #[.int .i64 ((rd_T37 l1 x19_2).f0), .int .i64 ((rd_T37 l1 x19_2).f1), .int .i64 ((rd_T37 l1 x19_2).f2), .bool ((rd_T37 l1 x19_2).f3), .int .i64 ((rd_T37 l1 x19_2).f4)] 37 (0, 0))) ∧ Aside0 (Below w.heap.size w w'))
 case atStart => exact ⟨(0), qz6, H', ⟨Nat.le_refl _⟩, ⟨bk_ BK116.out⟩, ⟨bk_ BK119.out⟩, ⟨qz1⟩⟩
 case round =>
 clear H'
 try clear c1
 try clear c48
 try clear c49
 try clear c49b0
 try clear c49b1
 try clear c50
 try clear c50b0
 try clear c50b1
 try clear q51
 obtain ⟨x59_4, rfl, HA, HK4, BK116, BK119, HB⟩ := hrel
 cases gk with
 | zero => exact absurd HA.out (by simp [impl_CrewOk.l1])
 | succ k4 =>
 have H := HA.out
 clear HA
 simp only [impl_CrewOk.l1] at H
 replace H := iE_ H
 rcases H with ⟨c52b0, H⟩ | ⟨c52b0, H⟩
 {
 replace H := iD_ H
 obtain ⟨c53b0, H⟩ := H
 replace H := iD_ H
 obtain ⟨c54b0, H⟩ := H
 replace H := iQ_ H
 rcases H with ⟨c55b0, c55b1, H⟩ | ⟨c55, c55b0, c55b1, H⟩
 {
 obtain rfl := Option.some.inj H
 have p130 : (0 ≤ (x59_4 : Int)) = True := et_
 have q130 : (x59_4 < (y126.length : Int)) = True := et_
 obtain ⟨ad130, e130, hx130_0, hx130_1, hx130_2, hx130_3, hx130_4⟩ := at_T37 HR129.out x59_4 dt_ dt_
 obtain rfl : ad118 = ad130 := (by injection e130)
 replace hx130_0 := cB_ hx130_0
 replace hx130_1 := cB_ hx130_1
 replace hx130_2 := cB_ hx130_2
 replace hx130_3 := cB_ hx130_3
 replace hx130_4 := cB_ hx130_4
 go_wp2_with (first | ((with_reducible refine gate_dst (N := 8) rfl ?_); (try (refine gate_guard (by rfl) ?_; dsimp only)); refine bx_ 8 #[.int .i64 0, .int .i64 0, .int .i64 0, .bool false, .int .i64 0] 37 ?_; intro gb131 hg w56 hbox hb; have BK131 := aM (hbox); have GW131 := aM (bz_ w hg qz1); have GE131 := GW131; replace HB := bS_ hb; obtain ⟨NB116_131, NB131_116⟩ := nb_ hg (bk_ BK116.out); replace BK116 := bB_ BK116 hb; obtain ⟨NB119_131, NB131_119⟩ := nb_ hg (bk_ BK119.out); replace BK119 := bB_ BK119 hb; clear hb hbox hg; have hnb57 := NB131_116.out; have hnc57 := NB116_131.out; have hnb58 := NB131_119.out; have hnc58 := NB119_131.out; obtain ⟨hcz59_0, hcz59_1, hcz59_2, hcz59_3, hcz59_4, hfz59_0, hfz59_1, hfz59_2, hfz59_3, hfz59_4⟩ := b10_ BK131.out; have hnb60 := NB119_116.out; have hnc60 := NB116_119.out; obtain ⟨hcz61_0, hcz61_1, hcz61_2, hcz61_3, hcz61_4, hfz61_0, hfz61_1, hfz61_2, hfz61_3, hfz61_4⟩ := b10_ BK119.out))
 go_ret
 exact ⟨qzw, qz1⟩
 }
 {
 have H' := aM H
 clear H
 have p130 : (0 ≤ (x59_4 : Int)) = True := et_
 have q130 : (x59_4 < (y126.length : Int)) = True := et_
 obtain ⟨ad130, e130, hx130_0, hx130_1, hx130_2, hx130_3, hx130_4⟩ := at_T37 HR129.out x59_4 dt_ dt_
 obtain rfl : ad118 = ad130 := (by injection e130)
 replace hx130_0 := cB_ hx130_0
 replace hx130_1 := cB_ hx130_1
 replace hx130_2 := cB_ hx130_2
 replace hx130_3 := cB_ hx130_3
 replace hx130_4 := cB_ hx130_4
 go_wp2_with (first | ((with_reducible refine gate_dst (N := 8) rfl ?_); (try (refine gate_guard (by rfl) ?_; dsimp only)); refine bx_ 8 #[.int .i64 0, .int .i64 0, .int .i64 0, .bool false, .int .i64 0] 37 ?_; intro gb131 hg w62 hbox hb; have BK131 := aM (hbox); have GW131 := aM (bz_ w hg qz1); have GE131 := GW131; replace HB := bS_ hb; obtain ⟨NB116_131, NB131_116⟩ := nb_ hg (bk_ BK116.out); replace BK116 := bB_ BK116 hb; obtain ⟨NB119_131, NB131_119⟩ := nb_ hg (bk_ BK119.out); replace BK119 := bB_ BK119 hb; clear hb hbox hg; have hnb63 := NB131_116.out; have hnc63 := NB116_131.out; have hnb64 := NB131_119.out; have hnc64 := NB119_131.out; obtain ⟨hcz65_0, hcz65_1, hcz65_2, hcz65_3, hcz65_4, hfz65_0, hfz65_1, hfz65_2, hfz65_3, hfz65_4⟩ := b10_ BK131.out; have hnb66 := NB119_116.out; have hnc66 := NB116_119.out; obtain ⟨hcz67_0, hcz67_1, hcz67_2, hcz67_3, hcz67_4, hfz67_0, hfz67_1, hfz67_2, hfz67_3, hfz67_4⟩ := b10_ BK119.out))
 go_roundg k4
 case measure => have := HJ2.out; have := HK2.out; have := HJ14.out; have := HK4.out; omega
 case rel => exact ⟨(wrap64 (x59_4 + 1)), qz6, H', ⟨by have := HJ2.out; have := HK2.out; have := HJ14.out; have := HK4.out; omega⟩, ⟨by (with_reducible repeat (first | refine blk_drewN ?_ _ | refine blk_drew ?_ | refine blk_alloc ?_ _)); refine blk_far ?_ NB116_131.out _; (with_reducible repeat (first | refine blk_drewN ?_ _ | refine blk_drew ?_ | refine blk_alloc ?_ _)); refine blk_far ?_ NB116_131.out _; (with_reducible repeat (first | refine blk_drewN ?_ _ | refine blk_drew ?_ | refine blk_alloc ?_ _)); refine blk_far ?_ NB116_131.out _; (with_reducible repeat (first | refine blk_drewN ?_ _ | refine blk_drew ?_ | refine blk_alloc ?_ _)); refine blk_far ?_ NB116_131.out _; (with_reducible repeat (first | refine blk_drewN ?_ _ | refine blk_drew ?_ | refine blk_alloc ?_ _)); refine blk_far ?_ NB116_131.out _; exact bk_ BK116.out⟩, ⟨by (with_reducible repeat (first | refine blk_drewN ?_ _ | refine blk_drew ?_ | refine blk_alloc ?_ _)); refine blk_far ?_ NB119_131.out _; (with_reducible repeat (first | refine blk_drewN ?_ _ | refine blk_drew ?_ | refine blk_alloc ?_ _)); refine blk_far ?_ NB119_131.out _; (with_reducible repeat (first | refine blk_drewN ?_ _ | refine blk_drew ?_ | refine blk_alloc ?_ _)); refine blk_far ?_ NB119_131.out _; (with_reducible repeat (first | refine blk_drewN ?_ _ | refine blk_drew ?_ | refine blk_alloc ?_ _)); refine blk_far ?_ NB119_131.out _; (with_reducible repeat (first | refine blk_drewN ?_ _ | refine blk_drew ?_ | refine blk_alloc ?_ _)); refine blk_far ?_ NB119_131.out _; exact bk_ BK119.out⟩, ⟨qz1⟩⟩
 }
 }
 {
 have H' := aM H
 clear H
 go_wp2
 go_roundg k4
 case measure => have := HJ2.out; have := HK2.out; have := HJ14.out; have := HK4.out; omega
 case rel => exact ⟨(wrap64 (x19_2 + 1)), qz6, H', ⟨by have := HJ2.out; have := HK2.out; have := HJ14.out; have := HK4.out; omega⟩, ⟨bk_ BK116.out⟩, ⟨qz1⟩⟩
 }
 }
 }
 {
 obtain rfl := Option.some.inj H
 go_wp2
 go_ret
 exact ⟨qzw, qz1⟩
 }
 }
end Go.Proofs.Ytankmdbbgepmbaa.PFnLively
