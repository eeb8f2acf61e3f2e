-- Made by a program of this session out of the translation. Lean checks it.
import Derived.Test.YtankmdbbgepmbaaPFnStepx8
import Derived.Test.YtankmdbbgepmbaaPFnStepx15
import Derived.Test.YtankmdbbgepmbaaPFnStepx22
namespace Go.Proofs.Ytankmdbbgepmbaa.PFnStep
open Go.RowKit Go.Proofs.YtankmdbbgepmbaaW.PrintWords Go.Proofs.YtankmdbbgepmbaaW.PrintLast Go.Proofs.YtankmdbbgepmbaaW.PrintMore
attribute [local go_sem] max2_int min2_int max_two min_two max_three min_three max_four min_four   -- for this text's walks alone
set_option linter.unusedVariables false
set_option linter.unusedSimpArgs false

/-! ### laws_FnStep: function 10 -/
mutual
def laws_FnStep.l0 : Nat → List (S37) → Int → Int → Int → List Int → Option (Bool)
 | 0, _, _, _, _, _ => none
 | k + 1, x4, x5, x506000, x506001, x506002 => if x5 < 6 then ((impl_Step.f k x506000 x506001 x506002 x4).bind fun t507 => (if (t507.length : Int) = (x4.length : Int) then ((impl_Clash.f k x506000 x506001 x506002 x4 t507).bind fun t510 => (if t510 = 0 then ((spec_Clash.f k x506000 x506001 x506002 x4 t507).bind fun t511 => (laws_FnStep.j1 k x4 x5 t507 (t511 != 0) x506000 x506001 x506002)) else (laws_FnStep.j1 k x4 x5 t507 true x506000 x506001 x506002))) else (laws_FnStep.j1 k x4 x5 t507 true x506000 x506001 x506002))) else ((impl_CrewOk.f k x506000 x506001 x506002 x4).bind fun t506 => (some t506))
def laws_FnStep.j1 : Nat → List (S37) → Int → List Int → Bool → Int → Int → List Int → Option (Bool)
 | 0, _, _, _, _, _, _, _ => none
 | k + 1, x4, x5, x6, x41, x506000, x506001, x506002 => if x41 = true then (some false) else ((impl_Advance.f k x506000 x506001 x506002 x4).bind fun t512 => (laws_FnStep.l1 k x4 x5 x6 t512 0 x506000 x506001 x506002))
def laws_FnStep.l1 : Nat → List (S37) → Int → List Int → List (S37) → Int → Int → Int → List Int → Option (Bool)
 | 0, _, _, _, _, _, _, _, _ => none
 | k + 1, x4, x5, x6, x7, x8, x506000, x506001, x506002 => if x8 < (x7.length : Int) then (if 0 ≤ x8 then (if x8 < (x6.length : Int) then (if ((rd_T37 x7 x8).f1) = (rd x6 x8) then (if x8 < (x4.length : Int) then (if ((rd_T37 x7 x8).f0) = ((rd_T37 x4 x8).f0) then (if ((rd_T37 x7 x8).f2) = ((rd_T37 x4 x8).f2) then (laws_FnStep.l1 k x4 x5 x6 x7 (wrap64 (x8 + 1)) x506000 x506001 x506002) else (some false)) else (some false)) else (none)) else (some false)) else (none)) else (none)) else ((impl_CrewOk.f k x506000 x506001 x506002 x7).bind fun t521 => (if t521 = true then (laws_FnStep.l0 k x7 (wrap64 (x5 + 1)) x506000 x506001 x506002) else (some false)))
end
def laws_FnStep.f (k : Nat) (l0 : List Int) : Option (Bool) := (laws_big.f l0).bind fun t496 => (if t496 = true then (some true) else ((spec_DrawCrew.f k l0).bind fun bt497 => (laws_FnStep.l0 k bt497.2.2.2 0 bt497.1 bt497.2.1 bt497.2.2.1)))
theorem laws_FnStep.mono_l : ∀ k, (∀ y0 y1 y2 y3 y4, LeO (laws_FnStep.l0 k y0 y1 y2 y3 y4) (laws_FnStep.l0 (k + 1) y0 y1 y2 y3 y4)) ∧ (∀ y0 y1 y2 y3 y4 y5 y6, LeO (laws_FnStep.j1 k y0 y1 y2 y3 y4 y5 y6) (laws_FnStep.j1 (k + 1) y0 y1 y2 y3 y4 y5 y6)) ∧ (∀ y0 y1 y2 y3 y4 y5 y6 y7, LeO (laws_FnStep.l1 k y0 y1 y2 y3 y4 y5 y6 y7) (laws_FnStep.l1 (k + 1) y0 y1 y2 y3 y4 y5 y6 y7))
 | 0 => ⟨fun _ _ _ _ _ r h => by simp [laws_FnStep.l0] at h, fun _ _ _ _ _ _ _ r h => by simp [laws_FnStep.j1] at h, fun _ _ _ _ _ _ _ _ r h => by simp [laws_FnStep.l1] at h⟩
 | k + 1 => by
  obtain ⟨ih0, ih1, ih2⟩ := laws_FnStep.mono_l k
  refine ⟨?_, ?_, ?_⟩
  {
  intro y0 y1 y2 y3 y4
  unfold laws_FnStep.l0
  have j0 := @impl_Advance.mono
  have j1 := @impl_Clash.mono
  have j2 := @impl_CrewOk.mono
  have j3 := @impl_Step.mono
  have j4 := @spec_Clash.mono
  have j5 := @spec_DrawCrew.mono
  exact qL
  }
  {
  intro y0 y1 y2 y3 y4 y5 y6
  unfold laws_FnStep.j1
  have j0 := @impl_Advance.mono
  have j1 := @impl_Clash.mono
  have j2 := @impl_CrewOk.mono
  have j3 := @impl_Step.mono
  have j4 := @spec_Clash.mono
  have j5 := @spec_DrawCrew.mono
  exact qL
  }
  {
  intro y0 y1 y2 y3 y4 y5 y6 y7
  unfold laws_FnStep.l1
  have j0 := @impl_Advance.mono
  have j1 := @impl_Clash.mono
  have j2 := @impl_CrewOk.mono
  have j3 := @impl_Step.mono
  have j4 := @spec_Clash.mono
  have j5 := @spec_DrawCrew.mono
  exact qL
  }
theorem laws_FnStep.mono : ∀ a0 k, LeO (laws_FnStep.f k a0) (laws_FnStep.f (k + 1) a0) := by
 intro a0 k
 obtain ⟨ih0, ih1, ih2⟩ := laws_FnStep.mono_l k
 unfold laws_FnStep.f
 have j0 := @impl_Advance.mono
 have j1 := @impl_Clash.mono
 have j2 := @impl_CrewOk.mono
 have j3 := @impl_Step.mono
 have j4 := @spec_Clash.mono
 have j5 := @spec_DrawCrew.mono
 exact qL
set_option maxHeartbeats 8000000 in
set_option maxRecDepth 100000 in
theorem laws_FnStep.calls (k : Nat) (A0 : Option Addr) (c0 : Nat) (l0 : List Int) (r : Bool) (w : World) (hr0 : Kd.C (Kd.int .u8) w A0 l0.length l0) (hc0 : l0.length ≤ c0) (hT : r = true) (h : laws_FnStep.f k l0 = some r) :
  Calls Try.prog 10 #[.slice A0 l0.length c0] w fun e w' => e = .returned (.bool r) ∧ Below w.heap.size w w' := by
 have HTR_ := aM hT
 clear hT
 have hu43 := Try.underlying43
 have HR0 := aM hr0
 have HC0 := aM hc0
 clear hr0 hc0
 have HB := aM (Below.refl w.heap.size w)
 unfold laws_FnStep.f at h
 have H := h
 clear h
 replace H := Option.bind_eq_some_iff.mp H
 obtain ⟨t496, A20, H⟩ := H
 have A2 := aM A20
 clear A20
 replace H := iB_ H
 rcases H with ⟨rfl, H⟩ | ⟨rfl, H⟩
 {
 obtain rfl := Option.some.inj H
 go_enter Try.func10, Try.ntmps10
 go_wp2_with (first | (go_at_call 23; (with_reducible refine (laws_big.calls _ _ l0 true _ ?_ ?_ A2.out).mono ?_); exact qz14; exact HC0.out; rintro e w' ⟨rfl, ⟨nd, rfl⟩⟩; (try first | exact ⟨rfl, _, World.drewN_drewN _ _ _⟩ | exact ⟨rfl, _, Eq.trans (World.drewN_drewN _ _ _) (congrArg (World.drewN _) (Nat.add_assoc _ _ _))⟩)) | go_quiet (first | (go_at_call 23; (with_reducible refine (laws_big.calls _ _ l0 true _ ?_ ?_ A2.out).mono ?_); exact qz14; exact HC0.out; rintro e w' ⟨rfl, ⟨nd, rfl⟩⟩; (try first | exact ⟨rfl, _, World.drewN_drewN _ _ _⟩ | exact ⟨rfl, _, Eq.trans (World.drewN_drewN _ _ _) (congrArg (World.drewN _) (Nat.add_assoc _ _ _))⟩))))
 go_ret
 exact ⟨qzw, qz1⟩
 }
 {
 replace H := Option.bind_eq_some_iff.mp H
 obtain ⟨⟨t497, t498, t499, t502⟩, A40, H⟩ := H
 try dsimp only at H
 have A4 := aM A40
 clear A40
 have H' := aM H
 clear H
 go_enter Try.func10, Try.ntmps10
 go_wp2_with (first | (go_at_call 23; (with_reducible refine (laws_big.calls _ _ l0 false _ ?_ ?_ A2.out).mono ?_); exact qz14; exact HC0.out; rintro e w' ⟨rfl, ⟨nd, rfl⟩⟩; (try first | exact ⟨rfl, _, World.drewN_drewN _ _ _⟩ | exact ⟨rfl, _, Eq.trans (World.drewN_drewN _ _ _) (congrArg (World.drewN _) (Nat.add_assoc _ _ _))⟩)) | (go_at_call 43; (with_reducible refine (spec_DrawCrew.calls k _ _ l0 t497 t498 t499 t502 _ ?_ ?_ A4.out).mono ?_); exact qz14; exact HC0.out; rintro e w5 ⟨v500, v503, rfl, ho0, ho1, hb⟩; have HO501 := aM (Kd.R_lower ho0 (below_size qz1)); have HO504 := aM (Kd.R_lower ho1 (below_size qz1)); replace HB := bS_ hb; (try clear hb ho0 ho1)) | ((with_reducible refine gate_dst (N := 3) rfl ?_); refine bx_ 3 #[.int .i64 0, .int .i64 0, .slice none 0 0] 43 ?_; intro gb505 hg w6 hbox hb; replace HO501 := aM (Kd.R_below (rr_ HO501.out) hb); replace HO504 := aM (Kd.R_below (rr_ HO504.out) hb); have BK505 := aM (hbox); have GW505 := aM (bz_ w hg qz1); have GE505 := GW505; replace HB := bS_ hb; clear hb hbox hg; obtain ⟨hcz7_0, hcz7_1, hcz7_2, hfz7_0, hfz7_1, hfz7_2⟩ := b6_ BK505.out; obtain ⟨Ao8, co8, eo8⟩ := Kd.R_slice HO501.out; subst eo8) | go_quiet (first | (go_at_call 23; (with_reducible refine (laws_big.calls _ _ l0 false _ ?_ ?_ A2.out).mono ?_); exact qz14; exact HC0.out; rintro e w' ⟨rfl, ⟨nd, rfl⟩⟩; (try first | exact ⟨rfl, _, World.drewN_drewN _ _ _⟩ | exact ⟨rfl, _, Eq.trans (World.drewN_drewN _ _ _) (congrArg (World.drewN _) (Nat.add_assoc _ _ _))⟩)) | (go_at_call 43; (with_reducible refine (spec_DrawCrew.calls k _ _ l0 t497 t498 t499 t502 _ ?_ ?_ A4.out).mono ?_); exact qz14; exact HC0.out; rintro e w5 ⟨v500, v503, rfl, ho0, ho1, hb⟩; have HO501 := aM (Kd.R_lower ho0 (below_size qz1)); have HO504 := aM (Kd.R_lower ho1 (below_size qz1)); replace HB := bS_ hb; (try clear hb ho0 ho1))))
 go_loopg [4, 5] k (fun kq v4 v5 w' => ∃ (x4_1 : List (S37)) (x5_1 : Int), v5 = .int .i64 x5_1 ∧ Aside0 (laws_FnStep.l0 kq x4_1 x5_1 t497 t498 t499 = some r) ∧ Aside0 (kq ≤ k) ∧ Aside0 (Kd.R k37 37 w' w.heap.size (fun _ => True) v4 x4_1) ∧ Aside0 (Kd.R (Kd.int .i64) 3 w' w.heap.size (fun _ => True) (.slice Ao8 t499.length co8) t499) ∧ Aside0 (w'.heap[gb505]? = some (.cells #[.int .i64 t497, .int .i64 t498, (.slice Ao8 t499.length co8)] 43 (0, 0))) ∧ Aside0 (Below w.heap.size w w'))
 case atStart => exact ⟨(t502), (0), qz5, H', ⟨Nat.le_refl _⟩, ⟨by (with_reducible repeat (first | apply Kd.R_alloc | apply Kd.R_drewN | apply Kd.R_drew)); exact Kd.R_mono (Kd.R_far (p := ⟨gb505, 2, none⟩) (Kd.R_far (p := ⟨gb505, 1, none⟩) (Kd.R_far (p := ⟨gb505, 0, none⟩) (Kd.R_types HO504.out BK505.out (by decide)) (fun _ hk => hk.2) (.int .i64 t497)) (fun _ hk => hk.2) (.int .i64 t498)) (fun _ hk => hk.2) (.slice Ao8 t499.length co8)) (fun _ hk => trivial)⟩, ⟨by (with_reducible repeat (first | apply Kd.R_alloc | apply Kd.R_drewN | apply Kd.R_drew)); exact Kd.R_mono (Kd.R_far (p := ⟨gb505, 2, none⟩) (Kd.R_far (p := ⟨gb505, 1, none⟩) (Kd.R_far (p := ⟨gb505, 0, none⟩) (Kd.R_types HO501.out BK505.out (by decide)) (fun _ hk => hk.2) (.int .i64 t497)) (fun _ hk => hk.2) (.int .i64 t498)) (fun _ hk => hk.2) (.slice Ao8 t499.length co8)) (fun _ hk => trivial)⟩, ⟨by (with_reducible repeat (first | refine blk_drewN ?_ _ | refine blk_drew ?_ | refine blk_alloc ?_ _)); refine blk_put (cs := #[.int .i64 t497, .int .i64 t498, .slice none 0 0]) ?_ 2 _ rfl; (with_reducible repeat (first | refine blk_drewN ?_ _ | refine blk_drew ?_ | refine blk_alloc ?_ _)); refine blk_put (cs := #[.int .i64 t497, .int .i64 0, .slice none 0 0]) ?_ 1 _ rfl; (with_reducible repeat (first | refine blk_drewN ?_ _ | refine blk_drew ?_ | refine blk_alloc ?_ _)); refine blk_put (cs := #[.int .i64 0, .int .i64 0, .slice none 0 0]) ?_ 0 _ rfl; exact bk_ BK505.out⟩, ⟨qz1⟩⟩
 case round =>
 clear H'
 try clear c3
 try clear hcz7_0 hcz7_1 hcz7_2 hfz7_0 hfz7_1 hfz7_2
 obtain ⟨x4_1, x5_1, rfl, HA, HK1, HO_4, HO_506002, BK505, HB⟩ := hrel
 cases gk with
 | zero => exact absurd HA.out (by simp [laws_FnStep.l0])
 | succ k1 =>
 have H := HA.out
 clear HA
 simp only [laws_FnStep.l0] at H
 replace H := iE_ H
 rcases H with ⟨c9b0, H⟩ | ⟨c9b0, H⟩
 {
 replace H := Option.bind_eq_some_iff.mp H
 obtain ⟨t507, A100, H⟩ := H
 have A10 := aM A100
 clear A100
 have HC11 := aM H
 clear H
 obtain ⟨hcz12_0, hcz12_1, hcz12_2, hfz12_0, hfz12_1, hfz12_2⟩ := b6_ BK505.out
 obtain ⟨Ao13, co13, eo13⟩ := Kd.R_slice HO_4.out
 subst eo13
 go_upto_region 8 with (first | (go_at_call 42; (with_reducible refine (impl_Step.calls k1 t497 t498 _ _ t499 _ _ x4_1 t507 _ ?_ ?_ ?_ ?_ A10.out).mono ?_); exact qz7; exact qz19; exact qz9; exact qz22; rintro e w14 ⟨v508, rfl, ho0, hb⟩; replace HO_4 := aM (Kd.R_below (rr_ HO_4.out) hb); have HO509 := aM (Kd.R_lower (Kd.R_new' ho0 (Kd.R_lt (rr_ HO_506002.out))) (below_size qz1)); replace HO_506002 := aM (Kd.R_elder' (rr_ HO_506002.out) (Kd.R_base ho0) hb); replace BK505 := bB_ BK505 hb; replace HB := bS_ hb; (try clear hb ho0)))
 repeat (go_quiet (first | (go_at_call 42; (with_reducible refine (impl_Step.calls k1 t497 t498 _ _ t499 _ _ x4_1 t507 _ ?_ ?_ ?_ ?_ A10.out).mono ?_); exact qz7; exact qz19; exact qz9; exact qz22; rintro e w14 ⟨v508, rfl, ho0, hb⟩; replace HO_4 := aM (Kd.R_below (rr_ HO_4.out) hb); have HO509 := aM (Kd.R_lower (Kd.R_new' ho0 (Kd.R_lt (rr_ HO_506002.out))) (below_size qz1)); replace HO_506002 := aM (Kd.R_elder' (rr_ HO_506002.out) (Kd.R_base ho0) hb); replace BK505 := bB_ BK505 hb; replace HB := bS_ hb; (try clear hb ho0))); go_upto_region 8 with (first | (go_at_call 42; (with_reducible refine (impl_Step.calls k1 t497 t498 _ _ t499 _ _ x4_1 t507 _ ?_ ?_ ?_ ?_ A10.out).mono ?_); exact qz7; exact qz19; exact qz9; exact qz22; rintro e w14 ⟨v508, rfl, ho0, hb⟩; replace HO_4 := aM (Kd.R_below (rr_ HO_4.out) hb); have HO509 := aM (Kd.R_lower (Kd.R_new' ho0 (Kd.R_lt (rr_ HO_506002.out))) (below_size qz1)); replace HO_506002 := aM (Kd.R_elder' (rr_ HO_506002.out) (Kd.R_base ho0) hb); replace BK505 := bB_ BK505 hb; replace HB := bS_ hb; (try clear hb ho0))))
 (try simp only [Act.put, List.setIfInBounds_toArray, List.set_cons_zero, List.set_cons_succ])
 go_cut [41] (fun v41 wc => ∃ (kq : Nat) (x41_10 : Bool), v41 = .bool x41_10 ∧ Aside0 (laws_FnStep.j1 kq x4_1 x5_1 t507 x41_10 t497 t498 t499 = some r) ∧ Aside0 (kq ≤ k1) ∧ Aside0 (Kd.R k37 37 wc w.heap.size (fun _ => True) (.slice Ao13 x4_1.length co13) x4_1) ∧ Aside0 (Kd.R (Kd.int .i64) 3 wc w.heap.size (fun k_ => some k_ ≠ ((.slice Ao8 t499.length co8) : Value).ownBlock) v508 t507) ∧ Aside0 (Kd.R (Kd.int .i64) 3 wc w.heap.size (fun k_ => some k_ ≠ (v508 : Value).ownBlock) (.slice Ao8 t499.length co8) t499) ∧ Aside0 (wc.heap[gb505]? = some (.cells #[.int .i64 t497, .int .i64 t498, (.slice Ao8 t499.length co8)] 43 (0, 0))) ∧ Aside0 (Below w.heap.size w wc))
 case first =>
  have H := HC11.out
  clear HC11
  replace H := iS_ H
  rcases H with ⟨c15, H⟩ | ⟨c15, H⟩
  {
  have c15b0 := beq_iff_eq.mpr c15
  have c15b1 := bne_eq_false_iff_eq.mpr c15
  have c15b2 : (t507.length == x4_1.length) = true := by first | simpa using c15 | (simp at c15 ⊢; omega)
  clear c15
  (first | rw [c15b0] | (simp only [i64_w, i32_w]; rw [c15b0]) | rw [@decide_eq_true _ _ (of_decide_eq_true c15b0)] | rw [@decide_eq_true _ _ (of_decide_eq_true c15b1)] | skip)
  replace H := Option.bind_eq_some_iff.mp H
  obtain ⟨t510, A160, H⟩ := H
  have A16 := aM A160
  clear A160
  replace H := iQ_ H
  rcases H with ⟨c17b0, c17b1, H⟩ | ⟨c17, c17b0, c17b1, H⟩
  {
  replace H := Option.bind_eq_some_iff.mp H
  obtain ⟨t511, A180, H⟩ := H
  have A18 := aM A180
  clear A180
  have H' := aM H
  clear H
  obtain ⟨Ao19, co19, eo19⟩ := Kd.R_slice HO509.out
  subst eo19
  obtain ⟨hcz20_0, hcz20_1, hcz20_2, hfz20_0, hfz20_1, hfz20_2⟩ := b6_ BK505.out
  go_wp2_with (first | (go_at_call 39; (with_reducible refine (impl_Clash.calls k1 t497 t498 _ _ t499 _ _ x4_1 _ _ t507 t510 _ ?_ ?_ ?_ ?_ ?_ ?_ A16.out).mono ?_); exact qz7; exact qz19; exact qz9; exact qz22; exact qz15; exact (Kd.R_reads' HO509.out).2.1; rintro e w21 ⟨rfl, hb⟩; replace HO_4 := aM (Kd.R_below (rr_ HO_4.out) hb); replace HO_506002 := aM (Kd.R_below (rr_ HO_506002.out) hb); replace HO509 := aM (Kd.R_below (rr_ HO509.out) hb); replace BK505 := bB_ BK505 hb; replace HB := bS_ hb; (try clear hb); obtain ⟨hcz22_0, hcz22_1, hcz22_2, hfz22_0, hfz22_1, hfz22_2⟩ := b6_ BK505.out) | (go_at_call 37; (with_reducible refine (spec_Clash.calls k1 t497 t498 _ _ t499 _ _ x4_1 _ _ t507 t511 _ ?_ ?_ ?_ ?_ ?_ ?_ A18.out).mono ?_); exact qz7; exact qz19; exact qz9; exact qz22; exact qz15; exact (Kd.R_reads' HO509.out).2.1; rintro e w23 ⟨rfl, hb⟩; replace HO_4 := aM (Kd.R_below (rr_ HO_4.out) hb); replace HO_506002 := aM (Kd.R_below (rr_ HO_506002.out) hb); replace HO509 := aM (Kd.R_below (rr_ HO509.out) hb); replace BK505 := bB_ BK505 hb; replace HB := bS_ hb; (try clear hb)) | go_quiet (first | (go_at_call 39; (with_reducible refine (impl_Clash.calls k1 t497 t498 _ _ t499 _ _ x4_1 _ _ t507 t510 _ ?_ ?_ ?_ ?_ ?_ ?_ A16.out).mono ?_); exact qz7; exact qz19; exact qz9; exact qz22; exact qz15; exact (Kd.R_reads' HO509.out).2.1; rintro e w21 ⟨rfl, hb⟩; replace HO_4 := aM (Kd.R_below (rr_ HO_4.out) hb); replace HO_506002 := aM (Kd.R_below (rr_ HO_506002.out) hb); replace HO509 := aM (Kd.R_below (rr_ HO509.out) hb); replace BK505 := bB_ BK505 hb; replace HB := bS_ hb; (try clear hb); obtain ⟨hcz22_0, hcz22_1, hcz22_2, hfz22_0, hfz22_1, hfz22_2⟩ := b6_ BK505.out) | (go_at_call 37; (with_reducible refine (spec_Clash.calls k1 t497 t498 _ _ t499 _ _ x4_1 _ _ t507 t511 _ ?_ ?_ ?_ ?_ ?_ ?_ A18.out).mono ?_); exact qz7; exact qz19; exact qz9; exact qz22; exact qz15; exact (Kd.R_reads' HO509.out).2.1; rintro e w23 ⟨rfl, hb⟩; replace HO_4 := aM (Kd.R_below (rr_ HO_4.out) hb); replace HO_506002 := aM (Kd.R_below (rr_ HO_506002.out) hb); replace HO509 := aM (Kd.R_below (rr_ HO509.out) hb); replace BK505 := bB_ BK505 hb; replace HB := bS_ hb; (try clear hb))))
  go_meet
  case rel => exact ⟨_, ((t511 != 0)), qz5, H', ⟨by have := HK1.out; first | omega | exact Nat.le_refl _⟩, ⟨rm_ HO_4.out⟩, ⟨by (with_reducible repeat (first | apply Kd.R_alloc | apply Kd.R_drewN | apply Kd.R_drew)); exact Kd.R_mono HO509.out (fun _ hk => hk.2)⟩, ⟨by (with_reducible repeat (first | apply Kd.R_alloc | apply Kd.R_drewN | apply Kd.R_drew)); exact Kd.R_mono HO_506002.out (fun _ hk => hk.2)⟩, ⟨bk_ BK505.out⟩, ⟨qz1⟩⟩
  }
  {
  have H' := aM H
  clear H
  obtain ⟨Ao24, co24, eo24⟩ := Kd.R_slice HO509.out
  subst eo24
  obtain ⟨hcz25_0, hcz25_1, hcz25_2, hfz25_0, hfz25_1, hfz25_2⟩ := b6_ BK505.out
  go_wp2_with (first | (go_at_call 39; (with_reducible refine (impl_Clash.calls k1 t497 t498 _ _ t499 _ _ x4_1 _ _ t507 t510 _ ?_ ?_ ?_ ?_ ?_ ?_ A16.out).mono ?_); exact qz7; exact qz19; exact qz9; exact qz22; exact qz15; exact (Kd.R_reads' HO509.out).2.1; rintro e w26 ⟨rfl, hb⟩; replace HO_4 := aM (Kd.R_below (rr_ HO_4.out) hb); replace HO_506002 := aM (Kd.R_below (rr_ HO_506002.out) hb); replace HO509 := aM (Kd.R_below (rr_ HO509.out) hb); replace BK505 := bB_ BK505 hb; replace HB := bS_ hb; (try clear hb)) | go_quiet (first | (go_at_call 39; (with_reducible refine (impl_Clash.calls k1 t497 t498 _ _ t499 _ _ x4_1 _ _ t507 t510 _ ?_ ?_ ?_ ?_ ?_ ?_ A16.out).mono ?_); exact qz7; exact qz19; exact qz9; exact qz22; exact qz15; exact (Kd.R_reads' HO509.out).2.1; rintro e w26 ⟨rfl, hb⟩; replace HO_4 := aM (Kd.R_below (rr_ HO_4.out) hb); replace HO_506002 := aM (Kd.R_below (rr_ HO_506002.out) hb); replace HO509 := aM (Kd.R_below (rr_ HO509.out) hb); replace BK505 := bB_ BK505 hb; replace HB := bS_ hb; (try clear hb))))
  go_meet
  case rel => exact ⟨_, (true), qz5, H', ⟨by have := HK1.out; first | omega | exact Nat.le_refl _⟩, ⟨rm_ HO_4.out⟩, ⟨by (with_reducible repeat (first | apply Kd.R_alloc | apply Kd.R_drewN | apply Kd.R_drew)); exact Kd.R_mono HO509.out (fun _ hk => hk.2)⟩, ⟨by (with_reducible repeat (first | apply Kd.R_alloc | apply Kd.R_drewN | apply Kd.R_drew)); exact Kd.R_mono HO_506002.out (fun _ hk => hk.2)⟩, ⟨bk_ BK505.out⟩, ⟨qz1⟩⟩
  }
  }
  {
  have c15b0 := beq_eq_false_iff_ne.mpr c15
  have c15b1 := bne_iff_ne.mpr c15
  have c15b2 : (t507.length == x4_1.length) = false := by first | simpa using c15 | (simp at c15 ⊢; omega)
  (first | rw [c15b0] | (simp only [i64_w, i32_w]; rw [c15b0]) | rw [@decide_eq_false _ _ (of_decide_eq_false c15b0)] | rw [@decide_eq_false _ _ (of_decide_eq_false c15b1)] | skip)
  have H' := aM H
  clear H
  obtain ⟨Ao27, co27, eo27⟩ := Kd.R_slice HO509.out
  subst eo27
  go_wp2
  repeat (go_quiet (fail); try go_wp2)
  go_meet
  case rel => exact ⟨_, (true), qz5, H', ⟨by have := HK1.out; first | omega | exact Nat.le_refl _⟩, ⟨rm_ HO_4.out⟩, ⟨by (with_reducible repeat (first | apply Kd.R_alloc | apply Kd.R_drewN | apply Kd.R_drew)); exact Kd.R_mono HO509.out (fun _ hk => hk.2)⟩, ⟨by (with_reducible repeat (first | apply Kd.R_alloc | apply Kd.R_drewN | apply Kd.R_drew)); exact Kd.R_mono HO_506002.out (fun _ hk => hk.2)⟩, ⟨bk_ BK505.out⟩, ⟨qz1⟩⟩
  }
 case rest =>
 clear HC11
 try clear c3
 try clear c9
 try clear c9b0
 try clear hcz12_0 hcz12_1 hcz12_2 hfz12_0 hfz12_1 hfz12_2
 try clear hcz7_0 hcz7_1 hcz7_2 hfz7_0 hfz7_1 hfz7_2
 obtain ⟨kq, x41_10, rfl, HA, HJ10, HO_4, HO_6, HO_506002, BK505, HB⟩ := hcut
 cases kq with
 | zero => exact absurd HA.out (by simp [laws_FnStep.j1])
 | succ kj10 =>
 have H := HA.out
 clear HA
 simp only [laws_FnStep.j1] at H
 replace H := iB_ H
 rcases H with ⟨rfl, H⟩ | ⟨rfl, H⟩
 {
 obtain rfl := Option.some.inj H
 exact absurd HTR_.out (by decide)
 }
 {
 replace H := Option.bind_eq_some_iff.mp H
 obtain ⟨t512, A290, H⟩ := H
 have A29 := aM A290
 clear A290
 have H' := aM H
 clear H
 obtain ⟨hcz30_0, hcz30_1, hcz30_2, hfz30_0, hfz30_1, hfz30_2⟩ := b6_ BK505.out
 go_wp2_with (first | (go_at_call 44; (with_reducible refine (impl_Advance.calls kj10 t497 t498 _ _ t499 _ _ x4_1 t512 _ ?_ ?_ ?_ ?_ A29.out).mono ?_); exact qz7; exact qz19; exact qz9; exact qz22; rintro e w31 ⟨v513, rfl, ho0, hb⟩; replace HO_6 := aM (Kd.R_below (rr_ HO_6.out) hb); replace HO_506002 := aM (Kd.R_below (rr_ HO_506002.out) hb); have HO514 := aM (Kd.R_lower (Kd.R_new' ho0 (Kd.R_lt (rr_ HO_4.out))) (below_size qz1)); replace HO_4 := aM (Kd.R_elder' (rr_ HO_4.out) (Kd.R_base ho0) hb); replace BK505 := bB_ BK505 hb; replace HB := bS_ hb; (try clear hb ho0)) | go_quiet (first | (go_at_call 44; (with_reducible refine (impl_Advance.calls kj10 t497 t498 _ _ t499 _ _ x4_1 t512 _ ?_ ?_ ?_ ?_ A29.out).mono ?_); exact qz7; exact qz19; exact qz9; exact qz22; rintro e w31 ⟨v513, rfl, ho0, hb⟩; replace HO_6 := aM (Kd.R_below (rr_ HO_6.out) hb); replace HO_506002 := aM (Kd.R_below (rr_ HO_506002.out) hb); have HO514 := aM (Kd.R_lower (Kd.R_new' ho0 (Kd.R_lt (rr_ HO_4.out))) (below_size qz1)); replace HO_4 := aM (Kd.R_elder' (rr_ HO_4.out) (Kd.R_base ho0) hb); replace BK505 := bB_ BK505 hb; replace HB := bS_ hb; (try clear hb ho0))))
 go_loopg [8] kj10 (fun kq v8 w' => ∃ (x8_3 : Int), v8 = .int .i64 x8_3 ∧ Aside0 (laws_FnStep.l1 kq x4_1 x5_1 t507 t512 x8_3 t497 t498 t499 = some r) ∧ Aside0 (kq ≤ kj10) ∧ Aside0 (Kd.R k37 37 w' w.heap.size (fun k_ => some k_ ≠ (v513 : Value).ownBlock) (.slice Ao13 x4_1.length co13) x4_1) ∧ Aside0 (Kd.R (Kd.int .i64) 3 w' w.heap.size (fun k_ => some k_ ≠ ((.slice Ao8 t499.length co8) : Value).ownBlock) v508 t507) ∧ Aside0 (Kd.R k37 37 w' w.heap.size (fun k_ => some k_ ≠ ((.slice Ao13 x4_1.length co13) : Value).ownBlock) v513 t512) ∧ Aside0 (Kd.R (Kd.int .i64) 3 w' w.heap.size (fun k_ => some k_ ≠ (v508 : Value).ownBlock) (.slice Ao8 t499.length co8) t499) ∧ Aside0 (w'.heap[gb505]? = some (.cells #[.int .i64 t497, .int .i64 t498, (.slice Ao8 t499.length co8)] 43 (0, 0))) ∧ Aside0 (Below w.heap.size w w'))
 case atStart => exact ⟨(0), qz5, H', ⟨Nat.le_refl _⟩, ⟨by (with_reducible repeat (first | apply Kd.R_alloc | apply Kd.R_drewN | apply Kd.R_drew)); exact Kd.R_mono HO_4.out (fun _ hk => hk.2)⟩, ⟨rr_ HO_6.out⟩, ⟨by (with_reducible repeat (first | apply Kd.R_alloc | apply Kd.R_drewN | apply Kd.R_drew)); exact Kd.R_mono HO514.out (fun _ hk => hk.2)⟩, ⟨rr_ HO_506002.out⟩, ⟨bk_ BK505.out⟩, ⟨qz1⟩⟩
 case round =>
 clear H'
 try clear c3
 try clear c9
 try clear c9b0
 try clear c28
 try clear hcz12_0 hcz12_1 hcz12_2 hfz12_0 hfz12_1 hfz12_2
 try clear hcz30_0 hcz30_1 hcz30_2 hfz30_0 hfz30_1 hfz30_2
 try clear hcz7_0 hcz7_1 hcz7_2 hfz7_0 hfz7_1 hfz7_2
 obtain ⟨x8_3, rfl, HA, HK3, HO_4, HO_6, HO_7, HO_506002, BK505, HB⟩ := hrel
 cases gk with
 | zero => exact absurd HA.out (by simp [laws_FnStep.l1])
 | succ k3 =>
 have H := HA.out
 clear HA
 simp only [laws_FnStep.l1] at H
 replace H := iE_ H
 rcases H with ⟨c32b0, H⟩ | ⟨c32b0, H⟩
 {
 replace H := iD_ H
 obtain ⟨c33b0, H⟩ := H
 replace H := iD_ H
 obtain ⟨c34b0, H⟩ := H
 replace H := iQ_ H
 rcases H with ⟨c35b0, c35b1, H⟩ | ⟨c35, c35b0, c35b1, H⟩
 {
 replace H := iD_ H
 obtain ⟨c36b0, H⟩ := H
 replace H := iQ_ H
 rcases H with ⟨c37b0, c37b1, H⟩ | ⟨c37, c37b0, c37b1, H⟩
 {
 replace H := iQ_ H
 rcases H with ⟨c38b0, c38b1, H⟩ | ⟨c38, c38b0, c38b1, H⟩
 {
 have H' := aM H
 clear H
 obtain ⟨Ao39, co39, eo39⟩ := Kd.R_slice HO_7.out
 subst eo39
 have p515 : (0 ≤ (x8_3 : Int)) = True := et_
 have q515 : (x8_3 < (t512.length : Int)) = True := et_
 obtain ⟨ad515, e515, hx515_0, hx515_1, hx515_2, hx515_3, hx515_4⟩ := at_T37 (Kd.R_reads' HO_7.out).2.2 x8_3 dt_ dt_
 cases e515
 obtain ⟨Ao40, co40, eo40⟩ := Kd.R_slice HO_6.out
 subst eo40
 have p516 : (0 ≤ (x8_3 : Int)) = True := et_
 have q516 : (x8_3 < (t507.length : Int)) = True := et_
 obtain ⟨ad516, e516, hx516_0⟩ := Kd.at_int (Kd.R_reads' HO_6.out).2.2 x8_3 dt_ dt_
 cases e516
 have p517 : (0 ≤ (x8_3 : Int)) = True := et_
 have q517 : (x8_3 < (t512.length : Int)) = True := et_
 obtain ⟨ad517, e517, hx517_0, hx517_1, hx517_2, hx517_3, hx517_4⟩ := at_T37 (Kd.R_reads' HO_7.out).2.2 x8_3 dt_ dt_
 obtain rfl : ad515 = ad517 := (by injection e517)
 have p518 : (0 ≤ (x8_3 : Int)) = True := et_
 have q518 : (x8_3 < (x4_1.length : Int)) = True := et_
 obtain ⟨ad518, e518, hx518_0, hx518_1, hx518_2, hx518_3, hx518_4⟩ := at_T37 (Kd.R_reads' HO_4.out).2.2 x8_3 dt_ dt_
 cases e518
 have p519 : (0 ≤ (x8_3 : Int)) = True := et_
 have q519 : (x8_3 < (t512.length : Int)) = True := et_
 obtain ⟨ad519, e519, hx519_0, hx519_1, hx519_2, hx519_3, hx519_4⟩ := at_T37 (Kd.R_reads' HO_7.out).2.2 x8_3 dt_ dt_
 obtain rfl : ad515 = ad519 := (by injection e519)
 have p520 : (0 ≤ (x8_3 : Int)) = True := et_
 have q520 : (x8_3 < (x4_1.length : Int)) = True := et_
 obtain ⟨ad520, e520, hx520_0, hx520_1, hx520_2, hx520_3, hx520_4⟩ := at_T37 (Kd.R_reads' HO_4.out).2.2 x8_3 dt_ dt_
 obtain rfl : ad518 = ad520 := (by injection e520)
 go_wp2
 repeat (go_quiet (fail); try go_wp2)
 go_roundg k3
 case measure => have := HK1.out; have := HJ10.out; have := HK3.out; omega
 case rel => exact ⟨(wrap64 (x8_3 + 1)), qz5, H', ⟨by have := HK1.out; have := HJ10.out; have := HK3.out; omega⟩, ⟨rm_ HO_4.out⟩, ⟨rm_ HO_6.out⟩, ⟨rm_ HO_7.out⟩, ⟨rm_ HO_506002.out⟩, ⟨bk_ BK505.out⟩, ⟨qz1⟩⟩
 }
 {
 obtain rfl := Option.some.inj H
 exact absurd HTR_.out (by decide)
 }
 }
 {
 obtain rfl := Option.some.inj H
 exact absurd HTR_.out (by decide)
 }
 }
 {
 obtain rfl := Option.some.inj H
 exact absurd HTR_.out (by decide)
 }
 }
 {
 replace H := Option.bind_eq_some_iff.mp H
 obtain ⟨t521, A410, H⟩ := H
 have A41 := aM A410
 clear A410
 replace H := iB_ H
 rcases H with ⟨rfl, H⟩ | ⟨rfl, H⟩
 {
 have H' := aM H
 clear H
 obtain ⟨Ao43, co43, eo43⟩ := Kd.R_slice HO_7.out
 subst eo43
 obtain ⟨hcz44_0, hcz44_1, hcz44_2, hfz44_0, hfz44_1, hfz44_2⟩ := b6_ BK505.out
 go_wp2_with (first | (go_at_call 45; (with_reducible refine (impl_CrewOk.calls k3 t497 t498 _ _ t499 _ _ t512 true _ ?side1 ?side2 ?side3 ?side4 A41.out).mono ?_); (case side1 => exact qz7); (case side2 => exact qz19); (case side3 => repeat (first | exact (Kd.R_reads' HO_7.out).2.2 | (with_reducible refine Kd.C_alloc ?_ _) | (with_reducible refine Kd.C_drewN ?_ _) | (with_reducible refine Kd.C_drew ?_))); (case side4 => exact (Kd.R_reads' HO_7.out).2.1); rintro e w45 ⟨rfl, hb⟩; replace HO_4 := aM (Kd.R_below (rr_ HO_4.out) hb); replace HO_6 := aM (Kd.R_below (rr_ HO_6.out) hb); replace HO_7 := aM (Kd.R_below (rr_ HO_7.out) hb); replace HO_506002 := aM (Kd.R_below (rr_ HO_506002.out) hb); replace BK505 := bB_ BK505 hb; replace HB := bS_ hb; (try clear hb)) | go_quiet (first | (go_at_call 45; (with_reducible refine (impl_CrewOk.calls k3 t497 t498 _ _ t499 _ _ t512 true _ ?side1 ?side2 ?side3 ?side4 A41.out).mono ?_); (case side1 => exact qz7); (case side2 => exact qz19); (case side3 => repeat (first | exact (Kd.R_reads' HO_7.out).2.2 | (with_reducible refine Kd.C_alloc ?_ _) | (with_reducible refine Kd.C_drewN ?_ _) | (with_reducible refine Kd.C_drew ?_))); (case side4 => exact (Kd.R_reads' HO_7.out).2.1); rintro e w45 ⟨rfl, hb⟩; replace HO_4 := aM (Kd.R_below (rr_ HO_4.out) hb); replace HO_6 := aM (Kd.R_below (rr_ HO_6.out) hb); replace HO_7 := aM (Kd.R_below (rr_ HO_7.out) hb); replace HO_506002 := aM (Kd.R_below (rr_ HO_506002.out) hb); replace BK505 := bB_ BK505 hb; replace HB := bS_ hb; (try clear hb))))
 go_roundg k3
 case measure => have := HK1.out; have := HJ10.out; have := HK3.out; omega
 case rel => exact ⟨(t512), (wrap64 (x5_1 + 1)), qz5, H', ⟨by have := HK1.out; have := HJ10.out; have := HK3.out; omega⟩, ⟨by (with_reducible repeat (first | apply Kd.R_alloc | apply Kd.R_drewN | apply Kd.R_drew)); exact Kd.R_mono HO_7.out (fun _ hk => trivial)⟩, ⟨by (with_reducible repeat (first | apply Kd.R_alloc | apply Kd.R_drewN | apply Kd.R_drew)); exact Kd.R_mono HO_506002.out (fun _ hk => trivial)⟩, ⟨bk_ BK505.out⟩, ⟨qz1⟩⟩
 }
 {
 obtain rfl := Option.some.inj H
 exact absurd HTR_.out (by decide)
 }
 }
 }
 }
 {
 replace H := Option.bind_eq_some_iff.mp H
 obtain ⟨t506, A460, H⟩ := H
 have A46 := aM A460
 clear A460
 obtain rfl := Option.some.inj H
 obtain ⟨hcz47_0, hcz47_1, hcz47_2, hfz47_0, hfz47_1, hfz47_2⟩ := b6_ BK505.out
 obtain ⟨Ao48, co48, eo48⟩ := Kd.R_slice HO_4.out
 subst eo48
 go_wp2_with (first | (go_at_call 45; (with_reducible refine (impl_CrewOk.calls k1 t497 t498 _ _ t499 _ _ x4_1 t506 _ ?_ ?_ ?_ ?_ A46.out).mono ?_); exact qz7; exact qz19; exact qz9; exact qz22; rintro e w49 ⟨rfl, hb⟩; replace HO_4 := aM (Kd.R_below (rr_ HO_4.out) hb); replace HO_506002 := aM (Kd.R_below (rr_ HO_506002.out) hb); replace BK505 := bB_ BK505 hb; replace HB := bS_ hb; (try clear hb)) | go_quiet (first | (go_at_call 45; (with_reducible refine (impl_CrewOk.calls k1 t497 t498 _ _ t499 _ _ x4_1 t506 _ ?_ ?_ ?_ ?_ A46.out).mono ?_); exact qz7; exact qz19; exact qz9; exact qz22; rintro e w49 ⟨rfl, hb⟩; replace HO_4 := aM (Kd.R_below (rr_ HO_4.out) hb); replace HO_506002 := aM (Kd.R_below (rr_ HO_506002.out) hb); replace BK505 := bB_ BK505 hb; replace HB := bS_ hb; (try clear hb))))
 go_ret
 exact ⟨qzw, qz1⟩
 }
 }
/-- THE ONE PURE STATEMENT of laws_FnStep: yours. -/
def laws_FnStep.Pure : Prop := ∀ (l0 : List Int), l0.length ≤ maxLen → l0.length * 1 ≤ 140737488351232 → (∀ x ∈ l0, (Lit.int .u8 x).wf = true) → ∃ k, laws_FnStep.f k l0 = some true
theorem laws_FnStep.walk (P : laws_FnStep.Pure) (a0 : Option Addr) (len0 cap0 : Nat) (z0 : List Int) (w : World) (w0 : (a0 = none ∧ len0 = 0 ∧ cap0 = 0 ∧ z0 = []) ∨ ∃ x, a0 = some x ∧ len0 ≤ cap0 ∧ cap0 ≤ maxLen ∧ z0.length = cap0 ∧ (∀ i, i < z0.length → w.cell? (x.add i) = some (.int .u8 (z0.getD i 0))) ∧ ∀ n ∈ z0, (Lit.int .u8 n).wf = true) (y0 : len0 * 1 ≤ 140737488351232) :
  Calls Try.prog 10 #[.slice a0 len0 cap0] w fun e w' => e = .returned (.bool true) ∧ Below w.heap.size w w' := by
 obtain ⟨l0, rfl, hr0, hm0, hw0, hc0⟩ := ReadsInt.ofRowC w0
 obtain ⟨k, h⟩ := P l0 hm0 y0 hw0
 refine (laws_FnStep.calls k _ _ l0 true w (Kd.C_of_reads (d := (0 : Int)) (h1 := fun _ => rfl) hr0) hc0 rfl h).mono ?_
 rintro e w' ⟨rfl, hd⟩
 exact ⟨rfl, hd⟩

end Go.Proofs.Ytankmdbbgepmbaa.PFnStep
