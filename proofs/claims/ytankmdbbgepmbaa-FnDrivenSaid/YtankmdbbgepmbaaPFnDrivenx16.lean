-- Made by a program of this session out of the translation. Lean checks it.
import Derived.Test.YtankmdbbgepmbaaPFnDrivenx15
namespace Go.Proofs.Ytankmdbbgepmbaa.PFnDriven
open Go.RowKit Go.Proofs.YtankmdbbgepmbaaW.PrintWords Go.Proofs.YtankmdbbgepmbaaW.PrintLast Go.Proofs.YtankmdbbgepmbaaW.PrintMore
attribute [local go_sem] max2_int min2_int max_two min_two max_three min_three max_four min_four   -- for this text's walks alone
set_option linter.unusedVariables false
set_option linter.unusedSimpArgs false

/-! ### laws_FnDriven: function 11 -/
mutual
def laws_FnDriven.j0 : Nat → List (S37) → List Bool → List Bool → List Bool → Bool → Option (Bool)
 | 0, _, _, _, _, _ => none
 | k + 1, x7, x8, x10, x12, x77 => if x77 = true then (some false) else (laws_FnDriven.l0 k x7 x8 x10 x12 0 0)
def laws_FnDriven.l0 : Nat → List (S37) → List Bool → List Bool → List Bool → Int → Int → Option (Bool)
 | 0, _, _, _, _, _, _ => none
 | k + 1, x7, x8, x10, x12, x13, x14 => if x14 < (x8.length : Int) then (if 0 ≤ x14 then (if x14 < (x10.length : Int) then (if rdOf false x10 x14 = true then (laws_FnDriven.j2 k x7 x8 x10 x12 x13 x14 ((rdOf false x8 x14) != true)) else (if x14 < (x12.length : Int) then (laws_FnDriven.j2 k x7 x8 x10 x12 x13 x14 ((rdOf false x8 x14) != (rdOf false x12 x14))) else (none))) else (none)) else (none)) else ((impl_Arrived.f k x7).bind fun t362 => (some (t362 == x13)))
def laws_FnDriven.j2 : Nat → List (S37) → List Bool → List Bool → List Bool → Int → Int → Bool → Option (Bool)
 | 0, _, _, _, _, _, _, _ => none
 | k + 1, x7, x8, x10, x12, x13, x14, x98 => if x98 = true then (some false) else (if 0 ≤ x14 then (if x14 < (x7.length : Int) then (if ((rd_T37 x7 x14).f2) = (-1) then (laws_FnDriven.l0 k x7 x8 x10 x12 (wrap64 (x13 + 1)) (wrap64 (x14 + 1))) else (if ((rd_T37 x7 x14).f1) = ((rd_T37 x7 x14).f2) then (laws_FnDriven.l0 k x7 x8 x10 x12 (wrap64 (x13 + 1)) (wrap64 (x14 + 1))) else (laws_FnDriven.l0 k x7 x8 x10 x12 x13 (wrap64 (x14 + 1))))) else (none)) else (none))
end
def laws_FnDriven.f (k : Nat) (l0 : List Int) : Option (Bool) := (laws_big.f l0).bind fun t331 => (if t331 = true then (some true) else ((spec_DrawCrew.f k l0).bind fun bt332 => ((laws_at.f l0 2).bind fun t341 => ((laws_at.f l0 3).bind fun t342 => (if (wrap64 ((Int.tmod t341 9) + 1)) = 0 then (none) else ((impl_Drive.f k bt332.1 bt332.2.1 bt332.2.2.1 bt332.2.2.2 (Int.tmod t341 9)).bind fun bt343 => ((impl_Drive.f k bt332.1 bt332.2.1 bt332.2.2.1 bt332.2.2.2 (Int.tmod t342 (wrap64 ((Int.tmod t341 9) + 1)))).bind fun bt349 => ((impl_Drive.f k bt332.1 bt332.2.1 bt332.2.2.1 bt349.1 (wrap64 ((Int.tmod t341 9) - (Int.tmod t342 (wrap64 ((Int.tmod t341 9) + 1)))))).bind fun bt355 => ((laws_sameCrew.f k bt343.1 bt355.1).bind fun t361 => (if t361 = true then (if (bt343.2.length : Int) = (bt332.2.2.2.length : Int) then (if (bt349.2.length : Int) = (bt332.2.2.2.length : Int) then (laws_FnDriven.j0 k bt343.1 bt343.2 bt349.2 bt355.2 ((bt355.2.length : Int) != (bt332.2.2.2.length : Int))) else (laws_FnDriven.j0 k bt343.1 bt343.2 bt349.2 bt355.2 true)) else (laws_FnDriven.j0 k bt343.1 bt343.2 bt349.2 bt355.2 true)) else (laws_FnDriven.j0 k bt343.1 bt343.2 bt349.2 bt355.2 true)))))))))))
theorem laws_FnDriven.mono_l : ∀ k, (∀ y0 y1 y2 y3 y4, LeO (laws_FnDriven.j0 k y0 y1 y2 y3 y4) (laws_FnDriven.j0 (k + 1) y0 y1 y2 y3 y4)) ∧ (∀ y0 y1 y2 y3 y4 y5, LeO (laws_FnDriven.l0 k y0 y1 y2 y3 y4 y5) (laws_FnDriven.l0 (k + 1) y0 y1 y2 y3 y4 y5)) ∧ (∀ y0 y1 y2 y3 y4 y5 y6, LeO (laws_FnDriven.j2 k y0 y1 y2 y3 y4 y5 y6) (laws_FnDriven.j2 (k + 1) y0 y1 y2 y3 y4 y5 y6))
 | 0 => ⟨fun _ _ _ _ _ r h => by simp [laws_FnDriven.j0] at h, fun _ _ _ _ _ _ r h => by simp [laws_FnDriven.l0] at h, fun _ _ _ _ _ _ _ r h => by simp [laws_FnDriven.j2] at h⟩
 | k + 1 => by
  obtain ⟨ih0, ih1, ih2⟩ := laws_FnDriven.mono_l k
  refine ⟨?_, ?_, ?_⟩
  {
  intro y0 y1 y2 y3 y4
  unfold laws_FnDriven.j0
  have j0 := @impl_Arrived.mono
  have j1 := @impl_Drive.mono
  have j2 := @laws_sameCrew.mono
  have j3 := @spec_DrawCrew.mono
  exact qL
  }
  {
  intro y0 y1 y2 y3 y4 y5
  unfold laws_FnDriven.l0
  have j0 := @impl_Arrived.mono
  have j1 := @impl_Drive.mono
  have j2 := @laws_sameCrew.mono
  have j3 := @spec_DrawCrew.mono
  exact qL
  }
  {
  intro y0 y1 y2 y3 y4 y5 y6
  unfold laws_FnDriven.j2
  have j0 := @impl_Arrived.mono
  have j1 := @impl_Drive.mono
  have j2 := @laws_sameCrew.mono
  have j3 := @spec_DrawCrew.mono
  exact qL
  }
theorem laws_FnDriven.mono : ∀ a0 k, LeO (laws_FnDriven.f k a0) (laws_FnDriven.f (k + 1) a0) := by
 intro a0 k
 obtain ⟨ih0, ih1, ih2⟩ := laws_FnDriven.mono_l k
 unfold laws_FnDriven.f
 have j0 := @impl_Arrived.mono
 have j1 := @impl_Drive.mono
 have j2 := @laws_sameCrew.mono
 have j3 := @spec_DrawCrew.mono
 exact qL
set_option maxHeartbeats 8000000 in
set_option maxRecDepth 100000 in
theorem laws_FnDriven.calls (k : Nat) (A0 : Option Addr) (c0 : Nat) (l0 : List Int) (r : Bool) (w : World) (hr0 : Kd.C (Kd.int .u8) w A0 l0.length l0) (hc0 : l0.length ≤ c0) (hT : r = true) (h : laws_FnDriven.f k l0 = some r) :
  Calls Try.prog 11 #[.slice A0 l0.length c0] w fun e w' => e = .returned (.bool r) ∧ Below w.heap.size w w' := by
 have HTR_ := aM hT
 clear hT
 have hu43 := Try.underlying43
 have HR0 := aM hr0
 have HC0 := aM hc0
 clear hr0 hc0
 have HB := aM (Below.refl w.heap.size w)
 unfold laws_FnDriven.f at h
 have H := h
 clear h
 replace H := Option.bind_eq_some_iff.mp H
 obtain ⟨t331, A20, H⟩ := H
 have A2 := aM A20
 clear A20
 replace H := iB_ H
 rcases H with ⟨rfl, H⟩ | ⟨rfl, H⟩
 {
 obtain rfl := Option.some.inj H
 go_enter Try.func11, Try.ntmps11
 go_wp2_with (first | (go_at_call 23; (with_reducible refine (laws_big.calls _ _ l0 true _ ?_ ?_ A2.out).mono ?_); exact qz10; exact HC0.out; rintro e w' ⟨rfl, ⟨nd, rfl⟩⟩; (try first | exact ⟨rfl, _, World.drewN_drewN _ _ _⟩ | exact ⟨rfl, _, Eq.trans (World.drewN_drewN _ _ _) (congrArg (World.drewN _) (Nat.add_assoc _ _ _))⟩)) | go_quiet (first | (go_at_call 23; (with_reducible refine (laws_big.calls _ _ l0 true _ ?_ ?_ A2.out).mono ?_); exact qz10; exact HC0.out; rintro e w' ⟨rfl, ⟨nd, rfl⟩⟩; (try first | exact ⟨rfl, _, World.drewN_drewN _ _ _⟩ | exact ⟨rfl, _, Eq.trans (World.drewN_drewN _ _ _) (congrArg (World.drewN _) (Nat.add_assoc _ _ _))⟩))))
 go_ret
 exact ⟨qzw, qz1⟩
 }
 {
 replace H := Option.bind_eq_some_iff.mp H
 obtain ⟨⟨t332, t333, t334, t337⟩, A40, H⟩ := H
 try dsimp only at H
 have A4 := aM A40
 clear A40
 replace H := Option.bind_eq_some_iff.mp H
 obtain ⟨t341, A50, H⟩ := H
 have A5 := aM A50
 clear A50
 replace H := Option.bind_eq_some_iff.mp H
 obtain ⟨t342, A60, H⟩ := H
 have A6 := aM A60
 clear A60
 by_cases c7 : (wrap64 ((Int.tmod t341 9) + 1)) = 0
 {
 exact ap_ c7 H
 }
 {
 rw [if_neg c7] at H
 have c7b0 := beq_eq_false_iff_ne.mpr c7
 have c7b1 := bne_iff_ne.mpr c7
 replace H := Option.bind_eq_some_iff.mp H
 obtain ⟨⟨t343, t346⟩, A80, H⟩ := H
 try dsimp only at H
 have A8 := aM A80
 clear A80
 replace H := Option.bind_eq_some_iff.mp H
 obtain ⟨⟨t349, t352⟩, A90, H⟩ := H
 try dsimp only at H
 have A9 := aM A90
 clear A90
 replace H := Option.bind_eq_some_iff.mp H
 obtain ⟨⟨t355, t358⟩, A100, H⟩ := H
 try dsimp only at H
 have A10 := aM A100
 clear A100
 have HC11 := aM H
 clear H
 go_enter Try.func11, Try.ntmps11
 go_upto_region 9 with (first | (go_at_call 23; (with_reducible refine (laws_big.calls _ _ l0 false _ ?_ ?_ A2.out).mono ?_); exact qz10; exact HC0.out; rintro e w' ⟨rfl, ⟨nd, rfl⟩⟩; (try first | exact ⟨rfl, _, World.drewN_drewN _ _ _⟩ | exact ⟨rfl, _, Eq.trans (World.drewN_drewN _ _ _) (congrArg (World.drewN _) (Nat.add_assoc _ _ _))⟩)) | (go_at_call 43; (with_reducible refine (spec_DrawCrew.calls k _ _ l0 t332 t333 t334 t337 _ ?_ ?_ A4.out).mono ?_); exact qz10; exact HC0.out; rintro e w12 ⟨v335, v338, rfl, ho0, ho1, hb⟩; have HO336 := aM (Kd.R_lower ho0 (below_size qz1)); have HO339 := aM (Kd.R_lower ho1 (below_size qz1)); replace HB := bS_ hb; (try clear hb ho0 ho1)) | ((with_reducible refine gate_dst (N := 3) rfl ?_); (try (refine gate_guard (by rfl) ?_; dsimp only)); refine bx_ 3 #[.int .i64 0, .int .i64 0, .slice none 0 0] 43 ?_; intro gb340 hg w13 hbox hb; replace HO336 := aM (Kd.R_below (rr_ HO336.out) hb); replace HO339 := aM (Kd.R_below (rr_ HO339.out) hb); have BK340 := aM (hbox); have GW340 := aM (bz_ w hg qz1); have GE340 := GW340; replace HB := bS_ hb; clear hb hbox hg; obtain ⟨hcz14_0, hcz14_1, hcz14_2, hfz14_0, hfz14_1, hfz14_2⟩ := b6_ BK340.out; obtain ⟨Ao15, co15, eo15⟩ := Kd.R_slice HO336.out; subst eo15) | (go_at_call 46; (with_reducible refine (laws_at.calls _ _ l0 2 t341 _ ?_ ?_ A5.out).mono ?_); exact Kd.C_below HR0.out qz1; exact HC0.out; rintro e w' ⟨rfl, ⟨nd, rfl⟩⟩; (try first | exact ⟨rfl, _, World.drewN_drewN _ _ _⟩ | exact ⟨rfl, _, Eq.trans (World.drewN_drewN _ _ _) (congrArg (World.drewN _) (Nat.add_assoc _ _ _))⟩)) | (go_at_call 46; (with_reducible refine (laws_at.calls _ _ l0 3 t342 _ ?_ ?_ A6.out).mono ?_); exact Kd.C_below HR0.out qz1; exact HC0.out; rintro e w' ⟨rfl, ⟨nd, rfl⟩⟩; (try first | exact ⟨rfl, _, World.drewN_drewN _ _ _⟩ | exact ⟨rfl, _, Eq.trans (World.drewN_drewN _ _ _) (congrArg (World.drewN _) (Nat.add_assoc _ _ _))⟩); obtain ⟨Ao16, co16, eo16⟩ := Kd.R_slice HO339.out; subst eo16) | (go_at_call 47; (with_reducible refine (impl_Drive.calls k t332 t333 _ _ t334 _ _ t337 (Int.tmod t341 9) t343 t346 _ ?side1 ?side2 ?side3 ?side4 A8.out).mono ?_); (case side1 => refine (Kd.R_reads' (e := 3) (base := w.heap.size) (ok := fun k_ => True) (n := t334.length) (c := co15) ?_).2.2; exact (by (with_reducible repeat (first | apply Kd.R_alloc | apply Kd.R_drewN | apply Kd.R_drew)); exact (Kd.R_mono (Kd.R_far (p := ⟨gb340, 2, none⟩) (Kd.R_far (p := ⟨gb340, 1, none⟩) (Kd.R_far (p := ⟨gb340, 0, none⟩) (Kd.R_types HO336.out BK340.out (by decide)) (fun _ hk => hk.2) (.int .i64 t332)) (fun _ hk => hk.2) (.int .i64 t333)) (fun _ hk => hk.2) (.slice Ao15 t334.length co15)) (fun _ h_ => h_.1)))); (case side2 => exact (Kd.R_reads' HO336.out).2.1); (case side3 => refine (Kd.R_reads' (e := 37) (base := w.heap.size) (ok := fun k_ => True) (n := t337.length) (c := co16) ?_).2.2; exact (by (with_reducible repeat (first | apply Kd.R_alloc | apply Kd.R_drewN | apply Kd.R_drew)); exact (Kd.R_mono (Kd.R_far (p := ⟨gb340, 2, none⟩) (Kd.R_far (p := ⟨gb340, 1, none⟩) (Kd.R_far (p := ⟨gb340, 0, none⟩) (Kd.R_types HO339.out BK340.out (by decide)) (fun _ hk => hk.2) (.int .i64 t332)) (fun _ hk => hk.2) (.int .i64 t333)) (fun _ hk => hk.2) (.slice Ao15 t334.length co15)) (fun _ h_ => h_.1)))); (case side4 => exact (Kd.R_reads' HO339.out).2.1); rintro e w17 ⟨v344, v347, rfl, ho0, ho1, hb⟩; replace HO336 := aM (Kd.R_below (by (with_reducible repeat (first | apply Kd.R_alloc | apply Kd.R_drewN | apply Kd.R_drew)); exact (Kd.R_mono (Kd.R_far (p := ⟨gb340, 2, none⟩) (Kd.R_far (p := ⟨gb340, 1, none⟩) (Kd.R_far (p := ⟨gb340, 0, none⟩) (Kd.R_types HO336.out BK340.out (by decide)) (fun _ hk => hk.2) (.int .i64 t332)) (fun _ hk => hk.2) (.int .i64 t333)) (fun _ hk => hk.2) (.slice Ao15 t334.length co15)) (fun _ h_ => h_.1))) hb); have HO345 := aM (Kd.R_lower (Kd.R_new' ho0 (Kd.R_lt (by (with_reducible repeat (first | apply Kd.R_alloc | apply Kd.R_drewN | apply Kd.R_drew)); exact (Kd.R_mono (Kd.R_far (p := ⟨gb340, 2, none⟩) (Kd.R_far (p := ⟨gb340, 1, none⟩) (Kd.R_far (p := ⟨gb340, 0, none⟩) (Kd.R_types HO339.out BK340.out (by decide)) (fun _ hk => hk.2) (.int .i64 t332)) (fun _ hk => hk.2) (.int .i64 t333)) (fun _ hk => hk.2) (.slice Ao15 t334.length co15)) (fun _ h_ => h_.1))))) (below_size qz1)); replace HO339 := aM (Kd.R_elder' (by (with_reducible repeat (first | apply Kd.R_alloc | apply Kd.R_drewN | apply Kd.R_drew)); exact (Kd.R_mono (Kd.R_far (p := ⟨gb340, 2, none⟩) (Kd.R_far (p := ⟨gb340, 1, none⟩) (Kd.R_far (p := ⟨gb340, 0, none⟩) (Kd.R_types HO339.out BK340.out (by decide)) (fun _ hk => hk.2) (.int .i64 t332)) (fun _ hk => hk.2) (.int .i64 t333)) (fun _ hk => hk.2) (.slice Ao15 t334.length co15)) (fun _ h_ => h_.1))) (Kd.R_base ho0) hb); have HO348 := aM (Kd.R_lower ho1 (below_size qz1)); replace BK340 := aM (blk_below (g := gb340) (o := .cells #[.int .i64 t332, .int .i64 t333, .slice Ao15 t334.length co15] 43 (0, 0)) (by (with_reducible repeat (first | refine blk_drewN ?_ _ | refine blk_drew ?_ | refine blk_alloc ?_ _)); refine blk_put (cs := #[.int .i64 t332, .int .i64 t333, .slice none 0 0]) ?_ 2 _ rfl; (with_reducible repeat (first | refine blk_drewN ?_ _ | refine blk_drew ?_ | refine blk_alloc ?_ _)); refine blk_put (cs := #[.int .i64 t332, .int .i64 0, .slice none 0 0]) ?_ 1 _ rfl; (with_reducible repeat (first | refine blk_drewN ?_ _ | refine blk_drew ?_ | refine blk_alloc ?_ _)); refine blk_put (cs := #[.int .i64 0, .int .i64 0, .slice none 0 0]) ?_ 0 _ rfl; exact bk_ BK340.out) hb); replace HB := bS_ hb; (try clear hb ho0 ho1); obtain ⟨hcz18_0, hcz18_1, hcz18_2, hfz18_0, hfz18_1, hfz18_2⟩ := b6_ BK340.out) | (go_at_call 47; (with_reducible refine (impl_Drive.calls k t332 t333 _ _ t334 _ _ t337 (Int.tmod t342 (wrap64 ((Int.tmod t341 9) + 1))) t349 t352 _ ?_ ?_ ?_ ?_ A9.out).mono ?_); exact qz14; exact (Kd.R_reads' HO336.out).2.1; exact qz16; exact (Kd.R_reads' HO339.out).2.1; rintro e w19 ⟨v350, v353, rfl, ho0, ho1, hb⟩; replace HO336 := aM (Kd.R_below (rr_ HO336.out) hb); have HO351 := aM (Kd.R_lower (Kd.R_new' (Kd.R_new' ho0 (Kd.R_lt (rr_ HO339.out))) (Kd.R_lt (rr_ HO345.out))) (below_size qz1)); replace HO339 := aM (Kd.R_elder' (rr_ HO339.out) (Kd.R_base ho0) hb); replace HO345 := aM (Kd.R_elder' (rr_ HO345.out) (Kd.R_base ho0) hb); have HO354 := aM (Kd.R_lower (Kd.R_new' ho1 (Kd.R_lt (rr_ HO348.out))) (below_size qz1)); replace HO348 := aM (Kd.R_elder' (rr_ HO348.out) (Kd.R_base ho1) hb); replace BK340 := bB_ BK340 hb; replace HB := bS_ hb; (try clear hb ho0 ho1); obtain ⟨hcz20_0, hcz20_1, hcz20_2, hfz20_0, hfz20_1, hfz20_2⟩ := b6_ BK340.out; obtain ⟨Ao21, co21, eo21⟩ := Kd.R_slice HO351.out; subst eo21) | (go_at_call 47; (with_reducible refine (impl_Drive.calls k t332 t333 _ _ t334 _ _ t349 (wrap64 ((Int.tmod t341 9) - (Int.tmod t342 (wrap64 ((Int.tmod t341 9) + 1))))) t355 t358 _ ?_ ?_ ?_ ?_ A10.out).mono ?_); exact qz14; exact (Kd.R_reads' HO336.out).2.1; exact qz17; exact (Kd.R_reads' HO351.out).2.1; rintro e w22 ⟨v356, v359, rfl, ho0, ho1, hb⟩; replace HO336 := aM (Kd.R_below (rr_ HO336.out) hb); have HO357 := aM (Kd.R_lower (Kd.R_new' (Kd.R_new' (Kd.R_new' ho0 (Kd.R_lt (rr_ HO339.out))) (Kd.R_lt (rr_ HO345.out))) (Kd.R_lt (rr_ HO351.out))) (below_size qz1)); replace HO339 := aM (Kd.R_elder' (rr_ HO339.out) (Kd.R_base ho0) hb); replace HO345 := aM (Kd.R_elder' (rr_ HO345.out) (Kd.R_base ho0) hb); replace HO351 := aM (Kd.R_elder' (rr_ HO351.out) (Kd.R_base ho0) hb); have HO360 := aM (Kd.R_lower (Kd.R_new' (Kd.R_new' ho1 (Kd.R_lt (rr_ HO348.out))) (Kd.R_lt (rr_ HO354.out))) (below_size qz1)); replace HO348 := aM (Kd.R_elder' (rr_ HO348.out) (Kd.R_base ho1) hb); replace HO354 := aM (Kd.R_elder' (rr_ HO354.out) (Kd.R_base ho1) hb); replace BK340 := bB_ BK340 hb; replace HB := bS_ hb; (try clear hb ho0 ho1)))
 repeat (go_quiet (first | (go_at_call 23; (with_reducible refine (laws_big.calls _ _ l0 false _ ?_ ?_ A2.out).mono ?_); exact qz10; exact HC0.out; rintro e w' ⟨rfl, ⟨nd, rfl⟩⟩; (try first | exact ⟨rfl, _, World.drewN_drewN _ _ _⟩ | exact ⟨rfl, _, Eq.trans (World.drewN_drewN _ _ _) (congrArg (World.drewN _) (Nat.add_assoc _ _ _))⟩)) | (go_at_call 43; (with_reducible refine (spec_DrawCrew.calls k _ _ l0 t332 t333 t334 t337 _ ?_ ?_ A4.out).mono ?_); exact qz10; exact HC0.out; rintro e w12 ⟨v335, v338, rfl, ho0, ho1, hb⟩; have HO336 := aM (Kd.R_lower ho0 (below_size qz1)); have HO339 := aM (Kd.R_lower ho1 (below_size qz1)); replace HB := bS_ hb; (try clear hb ho0 ho1)) | ((with_reducible refine gate_dst (N := 3) rfl ?_); (try (refine gate_guard (by rfl) ?_; dsimp only)); refine bx_ 3 #[.int .i64 0, .int .i64 0, .slice none 0 0] 43 ?_; intro gb340 hg w13 hbox hb; replace HO336 := aM (Kd.R_below (rr_ HO336.out) hb); replace HO339 := aM (Kd.R_below (rr_ HO339.out) hb); have BK340 := aM (hbox); have GW340 := aM (bz_ w hg qz1); have GE340 := GW340; replace HB := bS_ hb; clear hb hbox hg; obtain ⟨hcz14_0, hcz14_1, hcz14_2, hfz14_0, hfz14_1, hfz14_2⟩ := b6_ BK340.out; obtain ⟨Ao15, co15, eo15⟩ := Kd.R_slice HO336.out; subst eo15) | (go_at_call 46; (with_reducible refine (laws_at.calls _ _ l0 2 t341 _ ?_ ?_ A5.out).mono ?_); exact Kd.C_below HR0.out qz1; exact HC0.out; rintro e w' ⟨rfl, ⟨nd, rfl⟩⟩; (try first | exact ⟨rfl, _, World.drewN_drewN _ _ _⟩ | exact ⟨rfl, _, Eq.trans (World.drewN_drewN _ _ _) (congrArg (World.drewN _) (Nat.add_assoc _ _ _))⟩)) | (go_at_call 46; (with_reducible refine (laws_at.calls _ _ l0 3 t342 _ ?_ ?_ A6.out).mono ?_); exact Kd.C_below HR0.out qz1; exact HC0.out; rintro e w' ⟨rfl, ⟨nd, rfl⟩⟩; (try first | exact ⟨rfl, _, World.drewN_drewN _ _ _⟩ | exact ⟨rfl, _, Eq.trans (World.drewN_drewN _ _ _) (congrArg (World.drewN _) (Nat.add_assoc _ _ _))⟩); obtain ⟨Ao16, co16, eo16⟩ := Kd.R_slice HO339.out; subst eo16) | (go_at_call 47; (with_reducible refine (impl_Drive.calls k t332 t333 _ _ t334 _ _ t337 (Int.tmod t341 9) t343 t346 _ ?side1 ?side2 ?side3 ?side4 A8.out).mono ?_); (case side1 => refine (Kd.R_reads' (e := 3) (base := w.heap.size) (ok := fun k_ => True) (n := t334.length) (c := co15) ?_).2.2; exact (by (with_reducible repeat (first | apply Kd.R_alloc | apply Kd.R_drewN | apply Kd.R_drew)); exact (Kd.R_mono (Kd.R_far (p := ⟨gb340, 2, none⟩) (Kd.R_far (p := ⟨gb340, 1, none⟩) (Kd.R_far (p := ⟨gb340, 0, none⟩) (Kd.R_types HO336.out BK340.out (by decide)) (fun _ hk => hk.2) (.int .i64 t332)) (fun _ hk => hk.2) (.int .i64 t333)) (fun _ hk => hk.2) (.slice Ao15 t334.length co15)) (fun _ h_ => h_.1)))); (case side2 => exact (Kd.R_reads' HO336.out).2.1); (case side3 => refine (Kd.R_reads' (e := 37) (base := w.heap.size) (ok := fun k_ => True) (n := t337.length) (c := co16) ?_).2.2; exact (by (with_reducible repeat (first | apply Kd.R_alloc | apply Kd.R_drewN | apply Kd.R_drew)); exact (Kd.R_mono (Kd.R_far (p := ⟨gb340, 2, none⟩) (Kd.R_far (p := ⟨gb340, 1, none⟩) (Kd.R_far (p := ⟨gb340, 0, none⟩) (Kd.R_types HO339.out BK340.out (by decide)) (fun _ hk => hk.2) (.int .i64 t332)) (fun _ hk => hk.2) (.int .i64 t333)) (fun _ hk => hk.2) (.slice Ao15 t334.length co15)) (fun _ h_ => h_.1)))); (case side4 => exact (Kd.R_reads' HO339.out).2.1); rintro e w17 ⟨v344, v347, rfl, ho0, ho1, hb⟩; replace HO336 := aM (Kd.R_below (by (with_reducible repeat (first | apply Kd.R_alloc | apply Kd.R_drewN | apply Kd.R_drew)); exact (Kd.R_mono (Kd.R_far (p := ⟨gb340, 2, none⟩) (Kd.R_far (p := ⟨gb340, 1, none⟩) (Kd.R_far (p := ⟨gb340, 0, none⟩) (Kd.R_types HO336.out BK340.out (by decide)) (fun _ hk => hk.2) (.int .i64 t332)) (fun _ hk => hk.2) (.int .i64 t333)) (fun _ hk => hk.2) (.slice Ao15 t334.length co15)) (fun _ h_ => h_.1))) hb); have HO345 := aM (Kd.R_lower (Kd.R_new' ho0 (Kd.R_lt (by (with_reducible repeat (first | apply Kd.R_alloc | apply Kd.R_drewN | apply Kd.R_drew)); exact (Kd.R_mono (Kd.R_far (p := ⟨gb340, 2, none⟩) (Kd.R_far (p := ⟨gb340, 1, none⟩) (Kd.R_far (p := ⟨gb340, 0, none⟩) (Kd.R_types HO339.out BK340.out (by decide)) (fun _ hk => hk.2) (.int .i64 t332)) (fun _ hk => hk.2) (.int .i64 t333)) (fun _ hk => hk.2) (.slice Ao15 t334.length co15)) (fun _ h_ => h_.1))))) (below_size qz1)); replace HO339 := aM (Kd.R_elder' (by (with_reducible repeat (first | apply Kd.R_alloc | apply Kd.R_drewN | apply Kd.R_drew)); exact (Kd.R_mono (Kd.R_far (p := ⟨gb340, 2, none⟩) (Kd.R_far (p := ⟨gb340, 1, none⟩) (Kd.R_far (p := ⟨gb340, 0, none⟩) (Kd.R_types HO339.out BK340.out (by decide)) (fun _ hk => hk.2) (.int .i64 t332)) (fun _ hk => hk.2) (.int .i64 t333)) (fun _ hk => hk.2) (.slice Ao15 t334.length co15)) (fun _ h_ => h_.1))) (Kd.R_base ho0) hb); have HO348 := aM (Kd.R_lower ho1 (below_size qz1)); replace BK340 := aM (blk_below (g := gb340) (o := .cells #[.int .i64 t332, .int .i64 t333, .slice Ao15 t334.length co15] 43 (0, 0)) (by (with_reducible repeat (first | refine blk_drewN ?_ _ | refine blk_drew ?_ | refine blk_alloc ?_ _)); refine blk_put (cs := #[.int .i64 t332, .int .i64 t333, .slice none 0 0]) ?_ 2 _ rfl; (with_reducible repeat (first | refine blk_drewN ?_ _ | refine blk_drew ?_ | refine blk_alloc ?_ _)); refine blk_put (cs := #[.int .i64 t332, .int .i64 0, .slice none 0 0]) ?_ 1 _ rfl; (with_reducible repeat (first | refine blk_drewN ?_ _ | refine blk_drew ?_ | refine blk_alloc ?_ _)); refine blk_put (cs := #[.int .i64 0, .int .i64 0, .slice none 0 0]) ?_ 0 _ rfl; exact bk_ BK340.out) hb); replace HB := bS_ hb; (try clear hb ho0 ho1); obtain ⟨hcz18_0, hcz18_1, hcz18_2, hfz18_0, hfz18_1, hfz18_2⟩ := b6_ BK340.out) | (go_at_call 47; (with_reducible refine (impl_Drive.calls k t332 t333 _ _ t334 _ _ t337 (Int.tmod t342 (wrap64 ((Int.tmod t341 9) + 1))) t349 t352 _ ?_ ?_ ?_ ?_ A9.out).mono ?_); exact qz14; exact (Kd.R_reads' HO336.out).2.1; exact qz16; exact (Kd.R_reads' HO339.out).2.1; rintro e w19 ⟨v350, v353, rfl, ho0, ho1, hb⟩; replace HO336 := aM (Kd.R_below (rr_ HO336.out) hb); have HO351 := aM (Kd.R_lower (Kd.R_new' (Kd.R_new' ho0 (Kd.R_lt (rr_ HO339.out))) (Kd.R_lt (rr_ HO345.out))) (below_size qz1)); replace HO339 := aM (Kd.R_elder' (rr_ HO339.out) (Kd.R_base ho0) hb); replace HO345 := aM (Kd.R_elder' (rr_ HO345.out) (Kd.R_base ho0) hb); have HO354 := aM (Kd.R_lower (Kd.R_new' ho1 (Kd.R_lt (rr_ HO348.out))) (below_size qz1)); replace HO348 := aM (Kd.R_elder' (rr_ HO348.out) (Kd.R_base ho1) hb); replace BK340 := bB_ BK340 hb; replace HB := bS_ hb; (try clear hb ho0 ho1); obtain ⟨hcz20_0, hcz20_1, hcz20_2, hfz20_0, hfz20_1, hfz20_2⟩ := b6_ BK340.out; obtain ⟨Ao21, co21, eo21⟩ := Kd.R_slice HO351.out; subst eo21) | (go_at_call 47; (with_reducible refine (impl_Drive.calls k t332 t333 _ _ t334 _ _ t349 (wrap64 ((Int.tmod t341 9) - (Int.tmod t342 (wrap64 ((Int.tmod t341 9) + 1))))) t355 t358 _ ?_ ?_ ?_ ?_ A10.out).mono ?_); exact qz14; exact (Kd.R_reads' HO336.out).2.1; exact qz17; exact (Kd.R_reads' HO351.out).2.1; rintro e w22 ⟨v356, v359, rfl, ho0, ho1, hb⟩; replace HO336 := aM (Kd.R_below (rr_ HO336.out) hb); have HO357 := aM (Kd.R_lower (Kd.R_new' (Kd.R_new' (Kd.R_new' ho0 (Kd.R_lt (rr_ HO339.out))) (Kd.R_lt (rr_ HO345.out))) (Kd.R_lt (rr_ HO351.out))) (below_size qz1)); replace HO339 := aM (Kd.R_elder' (rr_ HO339.out) (Kd.R_base ho0) hb); replace HO345 := aM (Kd.R_elder' (rr_ HO345.out) (Kd.R_base ho0) hb); replace HO351 := aM (Kd.R_elder' (rr_ HO351.out) (Kd.R_base ho0) hb); have HO360 := aM (Kd.R_lower (Kd.R_new' (Kd.R_new' ho1 (Kd.R_lt (rr_ HO348.out))) (Kd.R_lt (rr_ HO354.out))) (below_size qz1)); replace HO348 := aM (Kd.R_elder' (rr_ HO348.out) (Kd.R_base ho1) hb); replace HO354 := aM (Kd.R_elder' (rr_ HO354.out) (Kd.R_base ho1) hb); replace BK340 := bB_ BK340 hb; replace HB := bS_ hb; (try clear hb ho0 ho1))); go_upto_region 9 with (first | (go_at_call 23; (with_reducible refine (laws_big.calls _ _ l0 false _ ?_ ?_ A2.out).mono ?_); exact qz10; exact HC0.out; rintro e w' ⟨rfl, ⟨nd, rfl⟩⟩; (try first | exact ⟨rfl, _, World.drewN_drewN _ _ _⟩ | exact ⟨rfl, _, Eq.trans (World.drewN_drewN _ _ _) (congrArg (World.drewN _) (Nat.add_assoc _ _ _))⟩)) | (go_at_call 43; (with_reducible refine (spec_DrawCrew.calls k _ _ l0 t332 t333 t334 t337 _ ?_ ?_ A4.out).mono ?_); exact qz10; exact HC0.out; rintro e w12 ⟨v335, v338, rfl, ho0, ho1, hb⟩; have HO336 := aM (Kd.R_lower ho0 (below_size qz1)); have HO339 := aM (Kd.R_lower ho1 (below_size qz1)); replace HB := bS_ hb; (try clear hb ho0 ho1)) | ((with_reducible refine gate_dst (N := 3) rfl ?_); (try (refine gate_guard (by rfl) ?_; dsimp only)); refine bx_ 3 #[.int .i64 0, .int .i64 0, .slice none 0 0] 43 ?_; intro gb340 hg w13 hbox hb; replace HO336 := aM (Kd.R_below (rr_ HO336.out) hb); replace HO339 := aM (Kd.R_below (rr_ HO339.out) hb); have BK340 := aM (hbox); have GW340 := aM (bz_ w hg qz1); have GE340 := GW340; replace HB := bS_ hb; clear hb hbox hg; obtain ⟨hcz14_0, hcz14_1, hcz14_2, hfz14_0, hfz14_1, hfz14_2⟩ := b6_ BK340.out; obtain ⟨Ao15, co15, eo15⟩ := Kd.R_slice HO336.out; subst eo15) | (go_at_call 46; (with_reducible refine (laws_at.calls _ _ l0 2 t341 _ ?_ ?_ A5.out).mono ?_); exact Kd.C_below HR0.out qz1; exact HC0.out; rintro e w' ⟨rfl, ⟨nd, rfl⟩⟩; (try first | exact ⟨rfl, _, World.drewN_drewN _ _ _⟩ | exact ⟨rfl, _, Eq.trans (World.drewN_drewN _ _ _) (congrArg (World.drewN _) (Nat.add_assoc _ _ _))⟩)) | (go_at_call 46; (with_reducible refine (laws_at.calls _ _ l0 3 t342 _ ?_ ?_ A6.out).mono ?_); exact Kd.C_below HR0.out qz1; exact HC0.out; rintro e w' ⟨rfl, ⟨nd, rfl⟩⟩; (try first | exact ⟨rfl, _, World.drewN_drewN _ _ _⟩ | exact ⟨rfl, _, Eq.trans (World.drewN_drewN _ _ _) (congrArg (World.drewN _) (Nat.add_assoc _ _ _))⟩); obtain ⟨Ao16, co16, eo16⟩ := Kd.R_slice HO339.out; subst eo16) | (go_at_call 47; (with_reducible refine (impl_Drive.calls k t332 t333 _ _ t334 _ _ t337 (Int.tmod t341 9) t343 t346 _ ?side1 ?side2 ?side3 ?side4 A8.out).mono ?_); (case side1 => refine (Kd.R_reads' (e := 3) (base := w.heap.size) (ok := fun k_ => True) (n := t334.length) (c := co15) ?_).2.2; exact (by (with_reducible repeat (first | apply Kd.R_alloc | apply Kd.R_drewN | apply Kd.R_drew)); exact (Kd.R_mono (Kd.R_far (p := ⟨gb340, 2, none⟩) (Kd.R_far (p := ⟨gb340, 1, none⟩) (Kd.R_far (p := ⟨gb340, 0, none⟩) (Kd.R_types HO336.out BK340.out (by decide)) (fun _ hk => hk.2) (.int .i64 t332)) (fun _ hk => hk.2) (.int .i64 t333)) (fun _ hk => hk.2) (.slice Ao15 t334.length co15)) (fun _ h_ => h_.1)))); (case side2 => exact (Kd.R_reads' HO336.out).2.1); (case side3 => refine (Kd.R_reads' (e := 37) (base := w.heap.size) (ok := fun k_ => True) (n := t337.length) (c := co16) ?_).2.2; exact (by (with_reducible repeat (first | apply Kd.R_alloc | apply Kd.R_drewN | apply Kd.R_drew)); exact (Kd.R_mono (Kd.R_far (p := ⟨gb340, 2, none⟩) (Kd.R_far (p := ⟨gb340, 1, none⟩) (Kd.R_far (p := ⟨gb340, 0, none⟩) (Kd.R_types HO339.out BK340.out (by decide)) (fun _ hk => hk.2) (.int .i64 t332)) (fun _ hk => hk.2) (.int .i64 t333)) (fun _ hk => hk.2) (.slice Ao15 t334.length co15)) (fun _ h_ => h_.1)))); (case side4 => exact (Kd.R_reads' HO339.out).2.1); rintro e w17 ⟨v344, v347, rfl, ho0, ho1, hb⟩; replace HO336 := aM (Kd.R_below (by (with_reducible repeat (first | apply Kd.R_alloc | apply Kd.R_drewN | apply Kd.R_drew)); exact (Kd.R_mono (Kd.R_far (p := ⟨gb340, 2, none⟩) (Kd.R_far (p := ⟨gb340, 1, none⟩) (Kd.R_far (p := ⟨gb340, 0, none⟩) (Kd.R_types HO336.out BK340.out (by decide)) (fun _ hk => hk.2) (.int .i64 t332)) (fun _ hk => hk.2) (.int .i64 t333)) (fun _ hk => hk.2) (.slice Ao15 t334.length co15)) (fun _ h_ => h_.1))) hb); have HO345 := aM (Kd.R_lower (Kd.R_new' ho0 (Kd.R_lt (by (with_reducible repeat (first | apply Kd.R_alloc | apply Kd.R_drewN | apply Kd.R_drew)); exact (Kd.R_mono (Kd.R_far (p := ⟨gb340, 2, none⟩) (Kd.R_far (p := ⟨gb340, 1, none⟩) (Kd.R_far (p := ⟨gb340, 0, none⟩) (Kd.R_types HO339.out BK340.out (by decide)) (fun _ hk => hk.2) (.int .i64 t332)) (fun _ hk => hk.2) (.int .i64 t333)) (fun _ hk => hk.2) (.slice Ao15 t334.length co15)) (fun _ h_ => h_.1))))) (below_size qz1)); replace HO339 := aM (Kd.R_elder' (by (with_reducible repeat (first | apply Kd.R_alloc | apply Kd.R_drewN | apply Kd.R_drew)); exact (Kd.R_mono (Kd.R_far (p := ⟨gb340, 2, none⟩) (Kd.R_far (p := ⟨gb340, 1, none⟩) (Kd.R_far (p := ⟨gb340, 0, none⟩) (Kd.R_types HO339.out BK340.out (by decide)) (fun _ hk => hk.2) (.int .i64 t332)) (fun _ hk => hk.2) (.int .i64 t333)) (fun _ hk => hk.2) (.slice Ao15 t334.length co15)) (fun _ h_ => h_.1))) (Kd.R_base ho0) hb); have HO348 := aM (Kd.R_lower ho1 (below_size qz1)); replace BK340 := aM (blk_below (g := gb340) (o := .cells #[.int .i64 t332, .int .i64 t333, .slice Ao15 t334.length co15] 43 (0, 0)) (by (with_reducible repeat (first | refine blk_drewN ?_ _ | refine blk_drew ?_ | refine blk_alloc ?_ _)); refine blk_put (cs := #[.int .i64 t332, .int .i64 t333, .slice none 0 0]) ?_ 2 _ rfl; (with_reducible repeat (first | refine blk_drewN ?_ _ | refine blk_drew ?_ | refine blk_alloc ?_ _)); refine blk_put (cs := #[.int .i64 t332, .int .i64 0, .slice none 0 0]) ?_ 1 _ rfl; (with_reducible repeat (first | refine blk_drewN ?_ _ | refine blk_drew ?_ | refine blk_alloc ?_ _)); refine blk_put (cs := #[.int .i64 0, .int .i64 0, .slice none 0 0]) ?_ 0 _ rfl; exact bk_ BK340.out) hb); replace HB := bS_ hb; (try clear hb ho0 ho1); obtain ⟨hcz18_0, hcz18_1, hcz18_2, hfz18_0, hfz18_1, hfz18_2⟩ := b6_ BK340.out) | (go_at_call 47; (with_reducible refine (impl_Drive.calls k t332 t333 _ _ t334 _ _ t337 (Int.tmod t342 (wrap64 ((Int.tmod t341 9) + 1))) t349 t352 _ ?_ ?_ ?_ ?_ A9.out).mono ?_); exact qz14; exact (Kd.R_reads' HO336.out).2.1; exact qz16; exact (Kd.R_reads' HO339.out).2.1; rintro e w19 ⟨v350, v353, rfl, ho0, ho1, hb⟩; replace HO336 := aM (Kd.R_below (rr_ HO336.out) hb); have HO351 := aM (Kd.R_lower (Kd.R_new' (Kd.R_new' ho0 (Kd.R_lt (rr_ HO339.out))) (Kd.R_lt (rr_ HO345.out))) (below_size qz1)); replace HO339 := aM (Kd.R_elder' (rr_ HO339.out) (Kd.R_base ho0) hb); replace HO345 := aM (Kd.R_elder' (rr_ HO345.out) (Kd.R_base ho0) hb); have HO354 := aM (Kd.R_lower (Kd.R_new' ho1 (Kd.R_lt (rr_ HO348.out))) (below_size qz1)); replace HO348 := aM (Kd.R_elder' (rr_ HO348.out) (Kd.R_base ho1) hb); replace BK340 := bB_ BK340 hb; replace HB := bS_ hb; (try clear hb ho0 ho1); obtain ⟨hcz20_0, hcz20_1, hcz20_2, hfz20_0, hfz20_1, hfz20_2⟩ := b6_ BK340.out; obtain ⟨Ao21, co21, eo21⟩ := Kd.R_slice HO351.out; subst eo21) | (go_at_call 47; (with_reducible refine (impl_Drive.calls k t332 t333 _ _ t334 _ _ t349 (wrap64 ((Int.tmod t341 9) - (Int.tmod t342 (wrap64 ((Int.tmod t341 9) + 1))))) t355 t358 _ ?_ ?_ ?_ ?_ A10.out).mono ?_); exact qz14; exact (Kd.R_reads' HO336.out).2.1; exact qz17; exact (Kd.R_reads' HO351.out).2.1; rintro e w22 ⟨v356, v359, rfl, ho0, ho1, hb⟩; replace HO336 := aM (Kd.R_below (rr_ HO336.out) hb); have HO357 := aM (Kd.R_lower (Kd.R_new' (Kd.R_new' (Kd.R_new' ho0 (Kd.R_lt (rr_ HO339.out))) (Kd.R_lt (rr_ HO345.out))) (Kd.R_lt (rr_ HO351.out))) (below_size qz1)); replace HO339 := aM (Kd.R_elder' (rr_ HO339.out) (Kd.R_base ho0) hb); replace HO345 := aM (Kd.R_elder' (rr_ HO345.out) (Kd.R_base ho0) hb); replace HO351 := aM (Kd.R_elder' (rr_ HO351.out) (Kd.R_base ho0) hb); have HO360 := aM (Kd.R_lower (Kd.R_new' (Kd.R_new' ho1 (Kd.R_lt (rr_ HO348.out))) (Kd.R_lt (rr_ HO354.out))) (below_size qz1)); replace HO348 := aM (Kd.R_elder' (rr_ HO348.out) (Kd.R_base ho1) hb); replace HO354 := aM (Kd.R_elder' (rr_ HO354.out) (Kd.R_base ho1) hb); replace BK340 := bB_ BK340 hb; replace HB := bS_ hb; (try clear hb ho0 ho1))))
 (try simp only [Act.put, List.setIfInBounds_toArray, List.set_cons_zero, List.set_cons_succ])
 go_cut [77] (fun v77 wc => ∃ (kq : Nat) (x77_10 : Bool), v77 = .bool x77_10 ∧ Aside0 (laws_FnDriven.j0 kq t343 t346 t352 t358 x77_10 = some r) ∧ Aside0 (kq ≤ k) ∧ Aside0 (Kd.R k37 37 wc w.heap.size (fun _ => True) v344 t343) ∧ Aside0 (Kd.R Kd.bool 4 wc w.heap.size (fun k_ => some k_ ≠ (v353 : Value).ownBlock ∧ some k_ ≠ (v359 : Value).ownBlock) v347 t346) ∧ Aside0 (Kd.R Kd.bool 4 wc w.heap.size (fun k_ => some k_ ≠ (v347 : Value).ownBlock ∧ some k_ ≠ (v359 : Value).ownBlock) v353 t352) ∧ Aside0 (Kd.R Kd.bool 4 wc w.heap.size (fun k_ => some k_ ≠ (v347 : Value).ownBlock ∧ some k_ ≠ (v353 : Value).ownBlock) v359 t358) ∧ Aside0 (Kd.R (Kd.int .i64) 3 wc w.heap.size (fun _ => True) (.slice Ao15 t334.length co15) t334) ∧ Aside0 (wc.heap[gb340]? = some (.cells #[.int .i64 t332, .int .i64 t333, (.slice Ao15 t334.length co15)] 43 (0, 0))) ∧ Aside0 (Below w.heap.size w wc))
 case first =>
  have H := HC11.out
  clear HC11
  replace H := Option.bind_eq_some_iff.mp H
  obtain ⟨t361, A230, H⟩ := H
  have A23 := aM A230
  clear A230
  replace H := iB_ H
  rcases H with ⟨rfl, H⟩ | ⟨rfl, H⟩
  {
  replace H := iS_ H
  rcases H with ⟨c25, H⟩ | ⟨c25, H⟩
  {
  have c25b0 := beq_iff_eq.mpr c25
  have c25b1 := bne_eq_false_iff_eq.mpr c25
  have c25b2 : (t346.length == t337.length) = true := by first | simpa using c25 | (simp at c25 ⊢; omega)
  clear c25
  (first | rw [c25b0] | (simp only [i64_w, i32_w]; rw [c25b0]) | rw [@decide_eq_true _ _ (of_decide_eq_true c25b0)] | rw [@decide_eq_true _ _ (of_decide_eq_true c25b1)] | skip)
  replace H := iS_ H
  rcases H with ⟨c26, H⟩ | ⟨c26, H⟩
  {
  have c26b0 := beq_iff_eq.mpr c26
  have c26b1 := bne_eq_false_iff_eq.mpr c26
  have c26b2 : (t352.length == t337.length) = true := by first | simpa using c26 | (simp at c26 ⊢; omega)
  clear c26
  have H' := aM H
  clear H
  obtain ⟨Ao27, co27, eo27⟩ := Kd.R_slice HO345.out
  subst eo27
  obtain ⟨Ao28, co28, eo28⟩ := Kd.R_slice HO357.out
  subst eo28
  go_wp2_with (first | (go_at_call 48; (with_reducible refine (laws_sameCrew.calls k _ _ t343 _ _ t355 true _ ?_ ?_ ?_ ?_ A23.out).mono ?_); exact qz11; exact (Kd.R_reads' HO345.out).2.1; exact qz12; exact (Kd.R_reads' HO357.out).2.1; rintro e w' ⟨rfl, ⟨nd, rfl⟩⟩; (try first | exact ⟨rfl, _, World.drewN_drewN _ _ _⟩ | exact ⟨rfl, _, Eq.trans (World.drewN_drewN _ _ _) (congrArg (World.drewN _) (Nat.add_assoc _ _ _))⟩); obtain ⟨Ao29, co29, eo29⟩ := Kd.R_slice HO348.out; subst eo29; obtain ⟨Ao30, co30, eo30⟩ := Kd.R_slice HO354.out; subst eo30; obtain ⟨Ao31, co31, eo31⟩ := Kd.R_slice HO360.out; subst eo31) | go_quiet (first | (go_at_call 48; (with_reducible refine (laws_sameCrew.calls k _ _ t343 _ _ t355 true _ ?_ ?_ ?_ ?_ A23.out).mono ?_); exact qz11; exact (Kd.R_reads' HO345.out).2.1; exact qz12; exact (Kd.R_reads' HO357.out).2.1; rintro e w' ⟨rfl, ⟨nd, rfl⟩⟩; (try first | exact ⟨rfl, _, World.drewN_drewN _ _ _⟩ | exact ⟨rfl, _, Eq.trans (World.drewN_drewN _ _ _) (congrArg (World.drewN _) (Nat.add_assoc _ _ _))⟩); obtain ⟨Ao29, co29, eo29⟩ := Kd.R_slice HO348.out; subst eo29; obtain ⟨Ao30, co30, eo30⟩ := Kd.R_slice HO354.out; subst eo30; obtain ⟨Ao31, co31, eo31⟩ := Kd.R_slice HO360.out; subst eo31)))
  go_meet
  case rel => exact ⟨_, (((t358.length : Int) != (t337.length : Int))), qz5, H', ⟨by first | omega | exact Nat.le_refl _⟩, ⟨by (with_reducible repeat (first | apply Kd.R_alloc | apply Kd.R_drewN | apply Kd.R_drew)); exact Kd.R_mono HO345.out (fun _ hk => trivial)⟩, ⟨by (with_reducible repeat (first | apply Kd.R_alloc | apply Kd.R_drewN | apply Kd.R_drew)); exact Kd.R_mono HO348.out (fun _ hk => ⟨hk.1.2, hk.2⟩)⟩, ⟨by (with_reducible repeat (first | apply Kd.R_alloc | apply Kd.R_drewN | apply Kd.R_drew)); exact Kd.R_mono HO354.out (fun _ hk => ⟨hk.1.2, hk.2⟩)⟩, ⟨by (with_reducible repeat (first | apply Kd.R_alloc | apply Kd.R_drewN | apply Kd.R_drew)); exact Kd.R_mono HO360.out (fun _ hk => ⟨hk.1.2, hk.2⟩)⟩, ⟨rm_ HO336.out⟩, ⟨bk_ BK340.out⟩, ⟨qz1⟩⟩
  }
  {
  have c26b0 := beq_eq_false_iff_ne.mpr c26
  have c26b1 := bne_iff_ne.mpr c26
  have c26b2 : (t352.length == t337.length) = false := by first | simpa using c26 | (simp at c26 ⊢; omega)
  have H' := aM H
  clear H
  obtain ⟨Ao32, co32, eo32⟩ := Kd.R_slice HO345.out
  subst eo32
  obtain ⟨Ao33, co33, eo33⟩ := Kd.R_slice HO357.out
  subst eo33
  go_wp2_with (first | (go_at_call 48; (with_reducible refine (laws_sameCrew.calls k _ _ t343 _ _ t355 true _ ?_ ?_ ?_ ?_ A23.out).mono ?_); exact qz11; exact (Kd.R_reads' HO345.out).2.1; exact qz12; exact (Kd.R_reads' HO357.out).2.1; rintro e w' ⟨rfl, ⟨nd, rfl⟩⟩; (try first | exact ⟨rfl, _, World.drewN_drewN _ _ _⟩ | exact ⟨rfl, _, Eq.trans (World.drewN_drewN _ _ _) (congrArg (World.drewN _) (Nat.add_assoc _ _ _))⟩); obtain ⟨Ao34, co34, eo34⟩ := Kd.R_slice HO348.out; subst eo34; obtain ⟨Ao35, co35, eo35⟩ := Kd.R_slice HO354.out; subst eo35) | go_quiet (first | (go_at_call 48; (with_reducible refine (laws_sameCrew.calls k _ _ t343 _ _ t355 true _ ?_ ?_ ?_ ?_ A23.out).mono ?_); exact qz11; exact (Kd.R_reads' HO345.out).2.1; exact qz12; exact (Kd.R_reads' HO357.out).2.1; rintro e w' ⟨rfl, ⟨nd, rfl⟩⟩; (try first | exact ⟨rfl, _, World.drewN_drewN _ _ _⟩ | exact ⟨rfl, _, Eq.trans (World.drewN_drewN _ _ _) (congrArg (World.drewN _) (Nat.add_assoc _ _ _))⟩); obtain ⟨Ao34, co34, eo34⟩ := Kd.R_slice HO348.out; subst eo34; obtain ⟨Ao35, co35, eo35⟩ := Kd.R_slice HO354.out; subst eo35)))
  go_meet
  case rel => exact ⟨_, (true), qz5, H', ⟨by first | omega | exact Nat.le_refl _⟩, ⟨by (with_reducible repeat (first | apply Kd.R_alloc | apply Kd.R_drewN | apply Kd.R_drew)); exact Kd.R_mono HO345.out (fun _ hk => trivial)⟩, ⟨by (with_reducible repeat (first | apply Kd.R_alloc | apply Kd.R_drewN | apply Kd.R_drew)); exact Kd.R_mono HO348.out (fun _ hk => ⟨hk.1.2, hk.2⟩)⟩, ⟨by (with_reducible repeat (first | apply Kd.R_alloc | apply Kd.R_drewN | apply Kd.R_drew)); exact Kd.R_mono HO354.out (fun _ hk => ⟨hk.1.2, hk.2⟩)⟩, ⟨by (with_reducible repeat (first | apply Kd.R_alloc | apply Kd.R_drewN | apply Kd.R_drew)); exact Kd.R_mono HO360.out (fun _ hk => ⟨hk.1.2, hk.2⟩)⟩, ⟨rm_ HO336.out⟩, ⟨bk_ BK340.out⟩, ⟨qz1⟩⟩
  }
  }
  {
  have c25b0 := beq_eq_false_iff_ne.mpr c25
  have c25b1 := bne_iff_ne.mpr c25
  have c25b2 : (t346.length == t337.length) = false := by first | simpa using c25 | (simp at c25 ⊢; omega)
  (first | rw [c25b0] | (simp only [i64_w, i32_w]; rw [c25b0]) | rw [@decide_eq_false _ _ (of_decide_eq_false c25b0)] | rw [@decide_eq_false _ _ (of_decide_eq_false c25b1)] | skip)
  have H' := aM H
  clear H
  obtain ⟨Ao36, co36, eo36⟩ := Kd.R_slice HO345.out
  subst eo36
  obtain ⟨Ao37, co37, eo37⟩ := Kd.R_slice HO357.out
  subst eo37
  go_wp2_with (first | (go_at_call 48; (with_reducible refine (laws_sameCrew.calls k _ _ t343 _ _ t355 true _ ?_ ?_ ?_ ?_ A23.out).mono ?_); exact qz11; exact (Kd.R_reads' HO345.out).2.1; exact qz12; exact (Kd.R_reads' HO357.out).2.1; rintro e w' ⟨rfl, ⟨nd, rfl⟩⟩; (try first | exact ⟨rfl, _, World.drewN_drewN _ _ _⟩ | exact ⟨rfl, _, Eq.trans (World.drewN_drewN _ _ _) (congrArg (World.drewN _) (Nat.add_assoc _ _ _))⟩); obtain ⟨Ao38, co38, eo38⟩ := Kd.R_slice HO348.out; subst eo38) | go_quiet (first | (go_at_call 48; (with_reducible refine (laws_sameCrew.calls k _ _ t343 _ _ t355 true _ ?_ ?_ ?_ ?_ A23.out).mono ?_); exact qz11; exact (Kd.R_reads' HO345.out).2.1; exact qz12; exact (Kd.R_reads' HO357.out).2.1; rintro e w' ⟨rfl, ⟨nd, rfl⟩⟩; (try first | exact ⟨rfl, _, World.drewN_drewN _ _ _⟩ | exact ⟨rfl, _, Eq.trans (World.drewN_drewN _ _ _) (congrArg (World.drewN _) (Nat.add_assoc _ _ _))⟩); obtain ⟨Ao38, co38, eo38⟩ := Kd.R_slice HO348.out; subst eo38)))
  go_meet
  case rel => exact ⟨_, (true), qz5, H', ⟨by first | omega | exact Nat.le_refl _⟩, ⟨by (with_reducible repeat (first | apply Kd.R_alloc | apply Kd.R_drewN | apply Kd.R_drew)); exact Kd.R_mono HO345.out (fun _ hk => trivial)⟩, ⟨by (with_reducible repeat (first | apply Kd.R_alloc | apply Kd.R_drewN | apply Kd.R_drew)); exact Kd.R_mono HO348.out (fun _ hk => ⟨hk.1.2, hk.2⟩)⟩, ⟨by (with_reducible repeat (first | apply Kd.R_alloc | apply Kd.R_drewN | apply Kd.R_drew)); exact Kd.R_mono HO354.out (fun _ hk => ⟨hk.1.2, hk.2⟩)⟩, ⟨by (with_reducible repeat (first | apply Kd.R_alloc | apply Kd.R_drewN | apply Kd.R_drew)); exact Kd.R_mono HO360.out (fun _ hk => ⟨hk.1.2, hk.2⟩)⟩, ⟨rm_ HO336.out⟩, ⟨bk_ BK340.out⟩, ⟨qz1⟩⟩
  }
  }
  {
  have H' := aM H
  clear H
  obtain ⟨Ao39, co39, eo39⟩ := Kd.R_slice HO345.out
  subst eo39
  obtain ⟨Ao40, co40, eo40⟩ := Kd.R_slice HO357.out
  subst eo40
  go_wp2_with (first | (go_at_call 48; (with_reducible refine (laws_sameCrew.calls k _ _ t343 _ _ t355 false _ ?_ ?_ ?_ ?_ A23.out).mono ?_); exact qz11; exact (Kd.R_reads' HO345.out).2.1; exact qz12; exact (Kd.R_reads' HO357.out).2.1; rintro e w' ⟨rfl, ⟨nd, rfl⟩⟩; (try first | exact ⟨rfl, _, World.drewN_drewN _ _ _⟩ | exact ⟨rfl, _, Eq.trans (World.drewN_drewN _ _ _) (congrArg (World.drewN _) (Nat.add_assoc _ _ _))⟩)) | go_quiet (first | (go_at_call 48; (with_reducible refine (laws_sameCrew.calls k _ _ t343 _ _ t355 false _ ?_ ?_ ?_ ?_ A23.out).mono ?_); exact qz11; exact (Kd.R_reads' HO345.out).2.1; exact qz12; exact (Kd.R_reads' HO357.out).2.1; rintro e w' ⟨rfl, ⟨nd, rfl⟩⟩; (try first | exact ⟨rfl, _, World.drewN_drewN _ _ _⟩ | exact ⟨rfl, _, Eq.trans (World.drewN_drewN _ _ _) (congrArg (World.drewN _) (Nat.add_assoc _ _ _))⟩))))
  go_meet
  case rel => exact ⟨_, (true), qz5, H', ⟨by first | omega | exact Nat.le_refl _⟩, ⟨by (with_reducible repeat (first | apply Kd.R_alloc | apply Kd.R_drewN | apply Kd.R_drew)); exact Kd.R_mono HO345.out (fun _ hk => trivial)⟩, ⟨by (with_reducible repeat (first | apply Kd.R_alloc | apply Kd.R_drewN | apply Kd.R_drew)); exact Kd.R_mono HO348.out (fun _ hk => ⟨hk.1.2, hk.2⟩)⟩, ⟨by (with_reducible repeat (first | apply Kd.R_alloc | apply Kd.R_drewN | apply Kd.R_drew)); exact Kd.R_mono HO354.out (fun _ hk => ⟨hk.1.2, hk.2⟩)⟩, ⟨by (with_reducible repeat (first | apply Kd.R_alloc | apply Kd.R_drewN | apply Kd.R_drew)); exact Kd.R_mono HO360.out (fun _ hk => ⟨hk.1.2, hk.2⟩)⟩, ⟨rm_ HO336.out⟩, ⟨bk_ BK340.out⟩, ⟨qz1⟩⟩
  }
 case rest =>
 clear HC11
 try clear c3
 try clear c7
 try clear c7b0
 try clear c7b1
 try clear hcz14_0 hcz14_1 hcz14_2 hfz14_0 hfz14_1 hfz14_2
 try clear hcz18_0 hcz18_1 hcz18_2 hfz18_0 hfz18_1 hfz18_2
 try clear hcz20_0 hcz20_1 hcz20_2 hfz20_0 hfz20_1 hfz20_2
 obtain ⟨kq, x77_10, rfl, HA, HJ10, HO_7, HO_8, HO_10, HO_12, HO_341002, BK340, HB⟩ := hcut
 cases kq with
 | zero => exact absurd HA.out (by simp [laws_FnDriven.j0])
 | succ kj10 =>
 have H := HA.out
 clear HA
 simp only [laws_FnDriven.j0] at H
 replace H := iB_ H
 rcases H with ⟨rfl, H⟩ | ⟨rfl, H⟩
 {
 obtain rfl := Option.some.inj H
 exact absurd HTR_.out (by decide)
 }
 {
 have H' := aM H
 clear H
 go_wp2
 repeat (go_quiet (fail); try go_wp2)
 go_loopg [13, 14] kj10 (fun kq v13 v14 w' => ∃ (x13_2 : Int) (x14_2 : Int), v13 = .int .i64 x13_2 ∧ v14 = .int .i64 x14_2 ∧ Aside0 (laws_FnDriven.l0 kq t343 t346 t352 t358 x13_2 x14_2 = some r) ∧ Aside0 (kq ≤ kj10) ∧ Aside0 (Kd.R k37 37 w' w.heap.size (fun _ => True) v344 t343) ∧ Aside0 (Kd.R Kd.bool 4 w' w.heap.size (fun k_ => some k_ ≠ (v353 : Value).ownBlock ∧ some k_ ≠ (v359 : Value).ownBlock) v347 t346) ∧ Aside0 (Kd.R Kd.bool 4 w' w.heap.size (fun k_ => some k_ ≠ (v347 : Value).ownBlock ∧ some k_ ≠ (v359 : Value).ownBlock) v353 t352) ∧ Aside0 (Kd.R Kd.bool 4 w' w.heap.size (fun k_ => some k_ ≠ (v347 : Value).ownBlock ∧ some k_ ≠ (v353 : Value).ownBlock) v359 t358) ∧ Aside0 (Kd.R (Kd.int .i64) 3 w' w.heap.size (fun _ => True) (.slice Ao15 t334.length co15) t334) ∧ Aside0 (w'.heap[gb340]? = some (.cells #[.int .i64 t332, .int .i64 t333, (.slice Ao15 t334.length co15)] 43 (0, 0))) ∧ Aside0 (Below w.heap.size w w'))
 case atStart => exact ⟨(0), (0), qz5, qz5, H', ⟨Nat.le_refl _⟩, ⟨rr_ HO_7.out⟩, ⟨rr_ HO_8.out⟩, ⟨rr_ HO_10.out⟩, ⟨rr_ HO_12.out⟩, ⟨rr_ HO_341002.out⟩, ⟨bk_ BK340.out⟩, ⟨qz1⟩⟩
 case round =>
 clear H'
 try clear c3
 try clear c7
 try clear c7b0
 try clear c7b1
 try clear c41
 try clear hcz14_0 hcz14_1 hcz14_2 hfz14_0 hfz14_1 hfz14_2
 try clear hcz18_0 hcz18_1 hcz18_2 hfz18_0 hfz18_1 hfz18_2
 try clear hcz20_0 hcz20_1 hcz20_2 hfz20_0 hfz20_1 hfz20_2
 obtain ⟨x13_2, x14_2, rfl, rfl, HA, HK2, HO_7, HO_8, HO_10, HO_12, HO_341002, BK340, HB⟩ := hrel
 cases gk with
 | zero => exact absurd HA.out (by simp [laws_FnDriven.l0])
 | succ k2 =>
 have H := HA.out
 clear HA
 simp only [laws_FnDriven.l0] at H
 replace H := iE_ H
 rcases H with ⟨c42b0, H⟩ | ⟨c42b0, H⟩
 {
 have HC43 := aM H
 clear H
 obtain ⟨Ao44, co44, eo44⟩ := Kd.R_slice HO_8.out
 subst eo44
 go_upto_region 15 with (fail)
 repeat (go_quiet (fail); go_upto_region 15 with (fail))
 go_cut [98] (fun v98 wc => ∃ (kq : Nat) (x98_42 : Bool), v98 = .bool x98_42 ∧ Aside0 (laws_FnDriven.j2 kq t343 t346 t352 t358 x13_2 x14_2 x98_42 = some r) ∧ Aside0 (kq ≤ k2) ∧ Aside0 (Kd.R k37 37 wc w.heap.size (fun _ => True) v344 t343) ∧ Aside0 (Kd.R Kd.bool 4 wc w.heap.size (fun k_ => some k_ ≠ (v353 : Value).ownBlock ∧ some k_ ≠ (v359 : Value).ownBlock) (.slice Ao44 t346.length co44) t346) ∧ Aside0 (Kd.R Kd.bool 4 wc w.heap.size (fun k_ => some k_ ≠ ((.slice Ao44 t346.length co44) : Value).ownBlock ∧ some k_ ≠ (v359 : Value).ownBlock) v353 t352) ∧ Aside0 (Kd.R Kd.bool 4 wc w.heap.size (fun k_ => some k_ ≠ ((.slice Ao44 t346.length co44) : Value).ownBlock ∧ some k_ ≠ (v353 : Value).ownBlock) v359 t358) ∧ Aside0 (Kd.R (Kd.int .i64) 3 wc w.heap.size (fun _ => True) (.slice Ao15 t334.length co15) t334) ∧ Aside0 (wc.heap[gb340]? = some (.cells #[.int .i64 t332, .int .i64 t333, (.slice Ao15 t334.length co15)] 43 (0, 0))) ∧ Aside0 (Below w.heap.size w wc))
 case first =>
  have H := HC43.out
  clear HC43
  replace H := iD_ H
  obtain ⟨c45b0, H⟩ := H
  (first | rw [c45b0] | (simp only [i64_w, i32_w]; rw [c45b0]) | rw [@decide_eq_true _ _ (of_decide_eq_true c45b0)] | rw [@decide_eq_true _ _ (of_decide_eq_true c45b1)] | skip)
  replace H := iD_ H
  obtain ⟨c46b0, H⟩ := H
  obtain ⟨bq47, hbq47⟩ : ∃ b_ : Bool, b_ = (rdOf false t352 x14_2) := ⟨_, rfl⟩
  replace H : (if bq47 = true then (laws_FnDriven.j2 k2 t343 t346 t352 t358 x13_2 x14_2 ((rdOf false t346 x14_2) != true)) else (if x14_2 < (t358.length : Int) then (laws_FnDriven.j2 k2 t343 t346 t352 t358 x13_2 x14_2 ((rdOf false t346 x14_2) != (rdOf false t358 x14_2))) else (none))) = some r := by rw [← hbq47] at H; exact H
  have Nbq47 := aM hbq47
  clear hbq47
  replace H := iB_ H
  rcases H with ⟨rfl, H⟩ | ⟨rfl, H⟩
  {
  have H' := aM H
  clear H
  have p363 : (0 ≤ (x14_2 : Int)) = True := et_
  have q363 : (x14_2 < (t346.length : Int)) = True := et_
  obtain ⟨ad363, e363, hx363_0⟩ := Kd.at_bool (Kd.R_reads' HO_8.out).2.2 x14_2 dt_ dt_
  (try rw [← Nbq47.out] at hx363_0)
  cases e363
  obtain ⟨Ao49, co49, eo49⟩ := Kd.R_slice HO_10.out
  subst eo49
  have p364 : (0 ≤ (x14_2 : Int)) = True := et_
  have q364 : (x14_2 < (t352.length : Int)) = True := et_
  obtain ⟨ad364, e364, hx364_0⟩ := Kd.at_bool (Kd.R_reads' HO_10.out).2.2 x14_2 dt_ dt_
  (try rw [← Nbq47.out] at hx364_0)
  cases e364
  go_wp2
  repeat (go_quiet (fail); try go_wp2)
  go_meet
  case rel => exact ⟨_, (((rdOf false t346 x14_2) != true)), qz5, H', ⟨by have := HJ10.out; have := HK2.out; first | omega | exact Nat.le_refl _⟩, ⟨rm_ HO_7.out⟩, ⟨rm_ HO_8.out⟩, ⟨rm_ HO_10.out⟩, ⟨rm_ HO_12.out⟩, ⟨rm_ HO_341002.out⟩, ⟨bk_ BK340.out⟩, ⟨qz1⟩⟩
  }
  {
  replace H := iD_ H
  obtain ⟨c50b0, H⟩ := H
  have H' := aM H
  clear H
  have p363 : (0 ≤ (x14_2 : Int)) = True := et_
  have q363 : (x14_2 < (t346.length : Int)) = True := et_
  obtain ⟨ad363, e363, hx363_0⟩ := Kd.at_bool (Kd.R_reads' HO_8.out).2.2 x14_2 dt_ dt_
  (try rw [← Nbq47.out] at hx363_0)
  cases e363
  obtain ⟨Ao51, co51, eo51⟩ := Kd.R_slice HO_10.out
  subst eo51
  have p364 : (0 ≤ (x14_2 : Int)) = True := et_
  have q364 : (x14_2 < (t352.length : Int)) = True := et_
  obtain ⟨ad364, e364, hx364_0⟩ := Kd.at_bool (Kd.R_reads' HO_10.out).2.2 x14_2 dt_ dt_
  (try rw [← Nbq47.out] at hx364_0)
  cases e364
  obtain ⟨Ao52, co52, eo52⟩ := Kd.R_slice HO_12.out
  subst eo52
  have p365 : (0 ≤ (x14_2 : Int)) = True := et_
  have q365 : (x14_2 < (t358.length : Int)) = True := et_
  obtain ⟨ad365, e365, hx365_0⟩ := Kd.at_bool (Kd.R_reads' HO_12.out).2.2 x14_2 dt_ dt_
  (try rw [← Nbq47.out] at hx365_0)
  cases e365
  go_wp2
  repeat (go_quiet (fail); try go_wp2)
  go_meet
  case rel => exact ⟨_, (((rdOf false t346 x14_2) != (rdOf false t358 x14_2))), qz5, H', ⟨by have := HJ10.out; have := HK2.out; first | omega | exact Nat.le_refl _⟩, ⟨rm_ HO_7.out⟩, ⟨rm_ HO_8.out⟩, ⟨rm_ HO_10.out⟩, ⟨rm_ HO_12.out⟩, ⟨rm_ HO_341002.out⟩, ⟨bk_ BK340.out⟩, ⟨qz1⟩⟩
  }
 case rest =>
 clear HC43
 try clear c3
 try clear c7
 try clear c7b0
 try clear c7b1
 try clear c41
 try clear c42
 try clear c42b0
 try clear hcz14_0 hcz14_1 hcz14_2 hfz14_0 hfz14_1 hfz14_2
 try clear hcz18_0 hcz18_1 hcz18_2 hfz18_0 hfz18_1 hfz18_2
 try clear hcz20_0 hcz20_1 hcz20_2 hfz20_0 hfz20_1 hfz20_2
 obtain ⟨kq, x98_42, rfl, HA, HJ42, HO_7, HO_8, HO_10, HO_12, HO_341002, BK340, HB⟩ := hcut
 cases kq with
 | zero => exact absurd HA.out (by simp [laws_FnDriven.j2])
 | succ kj42 =>
 have H := HA.out
 clear HA
 simp only [laws_FnDriven.j2] at H
 replace H := iB_ H
 rcases H with ⟨rfl, H⟩ | ⟨rfl, H⟩
 {
 obtain rfl := Option.some.inj H
 exact absurd HTR_.out (by decide)
 }
 {
 replace H := iD_ H
 obtain ⟨c54b0, H⟩ := H
 replace H := iD_ H
 obtain ⟨c55b0, H⟩ := H
 replace H := iQ_ H
 rcases H with ⟨c56b0, c56b1, H⟩ | ⟨c56, c56b0, c56b1, H⟩
 {
 have H' := aM H
 clear H
 obtain ⟨Ao57, co57, eo57⟩ := Kd.R_slice HO_7.out
 subst eo57
 have p366 : (0 ≤ (x14_2 : Int)) = True := et_
 have q366 : (x14_2 < (t343.length : Int)) = True := et_
 obtain ⟨ad366, e366, hx366_0, hx366_1, hx366_2, hx366_3, hx366_4⟩ := at_T37 (Kd.R_reads' HO_7.out).2.2 x14_2 dt_ dt_
 cases e366
 go_wp2
 repeat (go_quiet (fail); try go_wp2)
 go_roundg kj42
 case measure => have := HJ10.out; have := HK2.out; have := HJ42.out; omega
 case rel => exact ⟨(wrap64 (x13_2 + 1)), (wrap64 (x14_2 + 1)), qz5, qz5, H', ⟨by have := HJ10.out; have := HK2.out; have := HJ42.out; omega⟩, ⟨rm_ HO_7.out⟩, ⟨rm_ HO_8.out⟩, ⟨rm_ HO_10.out⟩, ⟨rm_ HO_12.out⟩, ⟨rm_ HO_341002.out⟩, ⟨bk_ BK340.out⟩, ⟨qz1⟩⟩
 }
 {
 replace H := iQ_ H
 rcases H with ⟨c58b0, c58b1, H⟩ | ⟨c58, c58b0, c58b1, H⟩
 {
 have H' := aM H
 clear H
 obtain ⟨Ao59, co59, eo59⟩ := Kd.R_slice HO_7.out
 subst eo59
 have p366 : (0 ≤ (x14_2 : Int)) = True := et_
 have q366 : (x14_2 < (t343.length : Int)) = True := et_
 obtain ⟨ad366, e366, hx366_0, hx366_1, hx366_2, hx366_3, hx366_4⟩ := at_T37 (Kd.R_reads' HO_7.out).2.2 x14_2 dt_ dt_
 cases e366
 have p367 : (0 ≤ (x14_2 : Int)) = True := et_
 have q367 : (x14_2 < (t343.length : Int)) = True := et_
 obtain ⟨ad367, e367, hx367_0, hx367_1, hx367_2, hx367_3, hx367_4⟩ := at_T37 (Kd.R_reads' HO_7.out).2.2 x14_2 dt_ dt_
 obtain rfl : ad366 = ad367 := (by injection e367)
 have p368 : (0 ≤ (x14_2 : Int)) = True := et_
 have q368 : (x14_2 < (t343.length : Int)) = True := et_
 obtain ⟨ad368, e368, hx368_0, hx368_1, hx368_2, hx368_3, hx368_4⟩ := at_T37 (Kd.R_reads' HO_7.out).2.2 x14_2 dt_ dt_
 obtain rfl : ad366 = ad368 := (by injection e368)
 go_wp2
 repeat (go_quiet (fail); try go_wp2)
 go_roundg kj42
 case measure => have := HJ10.out; have := HK2.out; have := HJ42.out; omega
 case rel => exact ⟨(wrap64 (x13_2 + 1)), (wrap64 (x14_2 + 1)), qz5, qz5, H', ⟨by have := HJ10.out; have := HK2.out; have := HJ42.out; omega⟩, ⟨rm_ HO_7.out⟩, ⟨rm_ HO_8.out⟩, ⟨rm_ HO_10.out⟩, ⟨rm_ HO_12.out⟩, ⟨rm_ HO_341002.out⟩, ⟨bk_ BK340.out⟩, ⟨qz1⟩⟩
 }
 {
 have H' := aM H
 clear H
 obtain ⟨Ao60, co60, eo60⟩ := Kd.R_slice HO_7.out
 subst eo60
 have p366 : (0 ≤ (x14_2 : Int)) = True := et_
 have q366 : (x14_2 < (t343.length : Int)) = True := et_
 obtain ⟨ad366, e366, hx366_0, hx366_1, hx366_2, hx366_3, hx366_4⟩ := at_T37 (Kd.R_reads' HO_7.out).2.2 x14_2 dt_ dt_
 cases e366
 have p367 : (0 ≤ (x14_2 : Int)) = True := et_
 have q367 : (x14_2 < (t343.length : Int)) = True := et_
 obtain ⟨ad367, e367, hx367_0, hx367_1, hx367_2, hx367_3, hx367_4⟩ := at_T37 (Kd.R_reads' HO_7.out).2.2 x14_2 dt_ dt_
 obtain rfl : ad366 = ad367 := (by injection e367)
 have p368 : (0 ≤ (x14_2 : Int)) = True := et_
 have q368 : (x14_2 < (t343.length : Int)) = True := et_
 obtain ⟨ad368, e368, hx368_0, hx368_1, hx368_2, hx368_3, hx368_4⟩ := at_T37 (Kd.R_reads' HO_7.out).2.2 x14_2 dt_ dt_
 obtain rfl : ad366 = ad368 := (by injection e368)
 go_wp2
 repeat (go_quiet (fail); try go_wp2)
 go_roundg kj42
 case measure => have := HJ10.out; have := HK2.out; have := HJ42.out; omega
 case rel => exact ⟨(x13_2), (wrap64 (x14_2 + 1)), qz5, qz5, H', ⟨by have := HJ10.out; have := HK2.out; have := HJ42.out; omega⟩, ⟨rm_ HO_7.out⟩, ⟨rm_ HO_8.out⟩, ⟨rm_ HO_10.out⟩, ⟨rm_ HO_12.out⟩, ⟨rm_ HO_341002.out⟩, ⟨bk_ BK340.out⟩, ⟨qz1⟩⟩
 }
 }
 }
 }
 {
 replace H := Option.bind_eq_some_iff.mp H
 obtain ⟨t362, A610, H⟩ := H
 have A61 := aM A610
 clear A610
 obtain rfl := Option.some.inj H
 obtain ⟨Ao62, co62, eo62⟩ := Kd.R_slice HO_8.out
 subst eo62
 obtain ⟨Ao63, co63, eo63⟩ := Kd.R_slice HO_7.out
 subst eo63
 go_wp2_with (first | (go_at_call 49; (with_reducible refine (impl_Arrived.calls k2 _ _ t343 t362 _ ?side1 ?side2 A61.out).mono ?_); (case side1 => repeat (first | exact (Kd.R_reads' HO_7.out).2.2 | (with_reducible refine Kd.C_alloc ?_ _) | (with_reducible refine Kd.C_drewN ?_ _) | (with_reducible refine Kd.C_drew ?_))); (case side2 => exact (Kd.R_reads' HO_7.out).2.1); rintro e w64 ⟨rfl, hb⟩; replace HO_7 := aM (Kd.R_below (rr_ HO_7.out) hb); replace HO_8 := aM (Kd.R_below (rr_ HO_8.out) hb); replace HO_10 := aM (Kd.R_below (rr_ HO_10.out) hb); replace HO_12 := aM (Kd.R_below (rr_ HO_12.out) hb); replace HO_341002 := aM (Kd.R_below (rr_ HO_341002.out) hb); replace BK340 := bB_ BK340 hb; replace HB := bS_ hb; (try clear hb)) | go_quiet (first | (go_at_call 49; (with_reducible refine (impl_Arrived.calls k2 _ _ t343 t362 _ ?side1 ?side2 A61.out).mono ?_); (case side1 => repeat (first | exact (Kd.R_reads' HO_7.out).2.2 | (with_reducible refine Kd.C_alloc ?_ _) | (with_reducible refine Kd.C_drewN ?_ _) | (with_reducible refine Kd.C_drew ?_))); (case side2 => exact (Kd.R_reads' HO_7.out).2.1); rintro e w64 ⟨rfl, hb⟩; replace HO_7 := aM (Kd.R_below (rr_ HO_7.out) hb); replace HO_8 := aM (Kd.R_below (rr_ HO_8.out) hb); replace HO_10 := aM (Kd.R_below (rr_ HO_10.out) hb); replace HO_12 := aM (Kd.R_below (rr_ HO_12.out) hb); replace HO_341002 := aM (Kd.R_below (rr_ HO_341002.out) hb); replace BK340 := bB_ BK340 hb; replace HB := bS_ hb; (try clear hb))))
 go_ret
 exact ⟨qzw, qz1⟩
 }
 }
 }
 }
/-- THE ONE PURE STATEMENT of laws_FnDriven: yours. -/
def laws_FnDriven.Pure : Prop := ∀ (l0 : List Int), l0.length ≤ maxLen → l0.length * 1 ≤ 140737488351232 → (∀ x ∈ l0, (Lit.int .u8 x).wf = true) → ∃ k, laws_FnDriven.f k l0 = some true
theorem laws_FnDriven.walk (P : laws_FnDriven.Pure) (a0 : Option Addr) (len0 cap0 : Nat) (z0 : List Int) (w : World) (w0 : (a0 = none ∧ len0 = 0 ∧ cap0 = 0 ∧ z0 = []) ∨ ∃ x, a0 = some x ∧ len0 ≤ cap0 ∧ cap0 ≤ maxLen ∧ z0.length = cap0 ∧ (∀ i, i < z0.length → w.cell? (x.add i) = some (.int .u8 (z0.getD i 0))) ∧ ∀ n ∈ z0, (Lit.int .u8 n).wf = true) (y0 : len0 * 1 ≤ 140737488351232) :
  Calls Try.prog 11 #[.slice a0 len0 cap0] w fun e w' => e = .returned (.bool true) ∧ Below w.heap.size w w' := by
 obtain ⟨l0, rfl, hr0, hm0, hw0, hc0⟩ := ReadsInt.ofRowC w0
 obtain ⟨k, h⟩ := P l0 hm0 y0 hw0
 refine (laws_FnDriven.calls k _ _ l0 true w (Kd.C_of_reads (d := (0 : Int)) (h1 := fun _ => rfl) hr0) hc0 rfl h).mono ?_
 rintro e w' ⟨rfl, hd⟩
 exact ⟨rfl, hd⟩

end Go.Proofs.Ytankmdbbgepmbaa.PFnDriven
