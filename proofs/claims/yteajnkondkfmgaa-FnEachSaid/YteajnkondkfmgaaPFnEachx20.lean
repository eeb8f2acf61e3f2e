-- Made by a program of this session out of the translation. Lean checks it.
import Derived.Test.YteajnkondkfmgaaPFnEachx6
import Derived.Test.YteajnkondkfmgaaPFnEachx19
namespace Go.Proofs.Yteajnkondkfmgaa.PFnEach
open Go.RowKit Go.Proofs.YteajnkondkfmgaaW.PrintWords Go.Proofs.YteajnkondkfmgaaW.PrintLast Go.Proofs.YteajnkondkfmgaaW.PrintMore
attribute [local go_sem] max2_int min2_int max_two min_two max_three min_three max_four min_four   -- for this text's walks alone
set_option linter.unusedVariables false
set_option linter.unusedSimpArgs false

/-! ### laws_FnEach: function 10 -/
mutual
def laws_FnEach.l0 : Nat → List (S50) → Bool → Bool → List Int → Int → List (S79) → List (S79) → Option (Bool)
 | 0, _, _, _, _, _, _, _ => none
 | k + 1, x4, x6, x8, x9, x10, x507000, x512000 => if x10 < (x4.length : Int) then (if 0 ≤ x10 then ((laws_among.f k x9 ((rd_T50 x4 x10).f0)).bind fun t521 => (if t521 = true then (laws_FnEach.l0 k x4 x6 x8 x9 (wrap64 (x10 + 1)) x507000 x512000) else (some false))) else (none)) else (laws_FnEach.l1 k x4 x6 x8 x9 0 x507000 x512000)
def laws_FnEach.l1 : Nat → List (S50) → Bool → Bool → List Int → Int → List (S79) → List (S79) → Option (Bool)
 | 0, _, _, _, _, _, _, _ => none
 | k + 1, x4, x6, x8, x9, x11, x507000, x512000 => if x11 < (x9.length : Int) then (laws_FnEach.l2 k x4 x6 x8 x9 x11 0 x507000 x512000) else (if (x6 == x8) = true then (if x6 = true then (if (x4.length : Int) > 0 then (some true) else (some ((x9.length : Int) == 0))) else ((laws_sameStock.f k x512000 x507000).bind fun t522 => (if t522 = true then (if (x4.length : Int) > 0 then (some true) else (some ((x9.length : Int) == 0))) else (some false)))) else (some false))
def laws_FnEach.l2 : Nat → List (S50) → Bool → Bool → List Int → Int → Int → List (S79) → List (S79) → Option (Bool)
 | 0, _, _, _, _, _, _, _, _ => none
 | k + 1, x4, x6, x8, x9, x11, x12, x507000, x512000 => if x12 < x11 then (if 0 ≤ x12 then (if x12 < (x9.length : Int) then (if 0 ≤ x11 then (if x11 < (x9.length : Int) then (if (rd x9 x12) = (rd x9 x11) then (some false) else (laws_FnEach.l2 k x4 x6 x8 x9 x11 (wrap64 (x12 + 1)) x507000 x512000)) else (none)) else (none)) else (none)) else (none)) else (laws_FnEach.l1 k x4 x6 x8 x9 (wrap64 (x11 + 1)) x507000 x512000)
end
def laws_FnEach.f (k : Nat) (l0 : List Int) : Option (Bool) := (laws_big.f l0).bind fun t499 => (if t499 = true then (some true) else ((spec_DrawHoldAll.f k l0).bind fun bt500 => ((impl_HoldAll.f k bt500.1 bt500.2).bind fun bt507 => ((spec_HoldAll.f k bt500.1 bt500.2).bind fun bt512 => ((impl_PodsOf.f k bt500.2).bind fun t517 => (laws_FnEach.l0 k bt500.2 bt507.2 bt512.2 t517 0 bt500.1 bt507.1))))))
theorem laws_FnEach.mono_l : ∀ k, (∀ y0 y1 y2 y3 y4 y5 y6, LeO (laws_FnEach.l0 k y0 y1 y2 y3 y4 y5 y6) (laws_FnEach.l0 (k + 1) y0 y1 y2 y3 y4 y5 y6)) ∧ (∀ y0 y1 y2 y3 y4 y5 y6, LeO (laws_FnEach.l1 k y0 y1 y2 y3 y4 y5 y6) (laws_FnEach.l1 (k + 1) y0 y1 y2 y3 y4 y5 y6)) ∧ (∀ y0 y1 y2 y3 y4 y5 y6 y7, LeO (laws_FnEach.l2 k y0 y1 y2 y3 y4 y5 y6 y7) (laws_FnEach.l2 (k + 1) y0 y1 y2 y3 y4 y5 y6 y7))
 | 0 => ⟨fun _ _ _ _ _ _ _ r h => by simp [laws_FnEach.l0] at h, fun _ _ _ _ _ _ _ r h => by simp [laws_FnEach.l1] at h, fun _ _ _ _ _ _ _ _ r h => by simp [laws_FnEach.l2] at h⟩
 | k + 1 => by
  obtain ⟨ih0, ih1, ih2⟩ := laws_FnEach.mono_l k
  refine ⟨?_, ?_, ?_⟩
  {
  intro y0 y1 y2 y3 y4 y5 y6
  unfold laws_FnEach.l0
  have j0 := @impl_HoldAll.mono
  have j1 := @impl_PodsOf.mono
  have j2 := @laws_among.mono
  have j3 := @laws_sameStock.mono
  have j4 := @spec_DrawHoldAll.mono
  have j5 := @spec_HoldAll.mono
  exact qL
  }
  {
  intro y0 y1 y2 y3 y4 y5 y6
  unfold laws_FnEach.l1
  have j0 := @impl_HoldAll.mono
  have j1 := @impl_PodsOf.mono
  have j2 := @laws_among.mono
  have j3 := @laws_sameStock.mono
  have j4 := @spec_DrawHoldAll.mono
  have j5 := @spec_HoldAll.mono
  exact qL
  }
  {
  intro y0 y1 y2 y3 y4 y5 y6 y7
  unfold laws_FnEach.l2
  have j0 := @impl_HoldAll.mono
  have j1 := @impl_PodsOf.mono
  have j2 := @laws_among.mono
  have j3 := @laws_sameStock.mono
  have j4 := @spec_DrawHoldAll.mono
  have j5 := @spec_HoldAll.mono
  exact qL
  }
theorem laws_FnEach.mono : ∀ a0 k, LeO (laws_FnEach.f k a0) (laws_FnEach.f (k + 1) a0) := by
 intro a0 k
 obtain ⟨ih0, ih1, ih2⟩ := laws_FnEach.mono_l k
 unfold laws_FnEach.f
 have j0 := @impl_HoldAll.mono
 have j1 := @impl_PodsOf.mono
 have j2 := @laws_among.mono
 have j3 := @laws_sameStock.mono
 have j4 := @spec_DrawHoldAll.mono
 have j5 := @spec_HoldAll.mono
 exact qL
set_option maxHeartbeats 8000000 in
set_option maxRecDepth 100000 in
theorem laws_FnEach.calls (k : Nat) (A0 : Option Addr) (c0 : Nat) (l0 : List Int) (r : Bool) (w : World) (hr0 : Kd.C (Kd.int .u8) w A0 l0.length l0) (hc0 : l0.length ≤ c0) (hT : r = true) (h : laws_FnEach.f k l0 = some r) :
  Calls Try.prog 10 #[.slice A0 l0.length c0] w fun e w' => e = .returned (.bool r) ∧ Below w.heap.size w w' := by
 have HTR_ := aM hT
 clear hT
 have hu26 := Try.underlying26
 have HR0 := aM hr0
 have HC0 := aM hc0
 clear hr0 hc0
 have HB := aM (Below.refl w.heap.size w)
 have H : ((laws_big.f l0).bind fun t499 => (if t499 = true then (some true) else ((spec_DrawHoldAll.f k l0).bind fun bt500 => ((impl_HoldAll.f k bt500.1 bt500.2).bind fun bt507 => ((spec_HoldAll.f k bt500.1 bt500.2).bind fun bt512 => ((impl_PodsOf.f k bt500.2).bind fun t517 => (laws_FnEach.l0 k bt500.2 bt507.2 bt512.2 t517 0 bt500.1 bt507.1))))))) = some r := h
 clear h
 replace H := Option.bind_eq_some_iff.mp H
 obtain ⟨t499, A20, H⟩ := H
 replace H : (if t499 = true then (some true) else ((spec_DrawHoldAll.f k l0).bind fun bt500 => ((impl_HoldAll.f k bt500.1 bt500.2).bind fun bt507 => ((spec_HoldAll.f k bt500.1 bt500.2).bind fun bt512 => ((impl_PodsOf.f k bt500.2).bind fun t517 => (laws_FnEach.l0 k bt500.2 bt507.2 bt512.2 t517 0 bt500.1 bt507.1)))))) = some r := H
 have A2 := aM A20
 clear A20
 by_cases c3 : t499 = true
 {
 subst c3
 rw [if_pos rfl] at H
 obtain rfl := Option.some.inj H
 simp only [Option.some.injEq, Prod.mk.injEq] at H
 obtain ⟨rfl⟩ := H
 go_enter Try.func10, Try.ntmps10
 go_wp2_with (first | (go_at_call 15; (with_reducible refine (laws_big.calls _ _ l0 true _ ?side1 ?side2 A2.out).mono ?_); (case side1 => exact qz12); (case side2 => exact HC0.out); rintro e w' ⟨rfl, ⟨nd, rfl⟩⟩; (try first | exact ⟨rfl, _, World.drewN_drewN _ _ _⟩ | exact ⟨rfl, _, Eq.trans (World.drewN_drewN _ _ _) (congrArg (World.drewN _) (Nat.add_assoc _ _ _))⟩)))
 repeat (go_quiet (first | (go_at_call 15; (with_reducible refine (laws_big.calls _ _ l0 true _ ?side1 ?side2 A2.out).mono ?_); (case side1 => exact qz12); (case side2 => exact HC0.out); rintro e w' ⟨rfl, ⟨nd, rfl⟩⟩; (try first | exact ⟨rfl, _, World.drewN_drewN _ _ _⟩ | exact ⟨rfl, _, Eq.trans (World.drewN_drewN _ _ _) (congrArg (World.drewN _) (Nat.add_assoc _ _ _))⟩))); try go_wp2_with (first | (go_at_call 15; (with_reducible refine (laws_big.calls _ _ l0 true _ ?side1 ?side2 A2.out).mono ?_); (case side1 => exact qz12); (case side2 => exact HC0.out); rintro e w' ⟨rfl, ⟨nd, rfl⟩⟩; (try first | exact ⟨rfl, _, World.drewN_drewN _ _ _⟩ | exact ⟨rfl, _, Eq.trans (World.drewN_drewN _ _ _) (congrArg (World.drewN _) (Nat.add_assoc _ _ _))⟩))))
 go_ret
 exact ⟨qzw, qz1⟩
 }
 {
 replace c3 := Bool.eq_false_iff.mpr c3
 subst c3
 rw [if_neg (show ¬ (false = true) by decide)] at H
 replace H := Option.bind_eq_some_iff.mp H
 obtain ⟨⟨t500, t503⟩, A40, H⟩ := H
 replace H : ((impl_HoldAll.f k t500 t503).bind fun bt507 => ((spec_HoldAll.f k t500 t503).bind fun bt512 => ((impl_PodsOf.f k t503).bind fun t517 => (laws_FnEach.l0 k t503 bt507.2 bt512.2 t517 0 t500 bt507.1)))) = some r := H
 have A4 := aM A40
 clear A40
 replace H := Option.bind_eq_some_iff.mp H
 obtain ⟨⟨t507, t510⟩, A50, H⟩ := H
 replace H : ((spec_HoldAll.f k t500 t503).bind fun bt512 => ((impl_PodsOf.f k t503).bind fun t517 => (laws_FnEach.l0 k t503 t510 bt512.2 t517 0 t500 t507))) = some r := H
 have A5 := aM A50
 clear A50
 replace H := Option.bind_eq_some_iff.mp H
 obtain ⟨⟨t512, t515⟩, A60, H⟩ := H
 replace H : ((impl_PodsOf.f k t503).bind fun t517 => (laws_FnEach.l0 k t503 t510 t515 t517 0 t500 t507)) = some r := H
 have A6 := aM A60
 clear A60
 replace H := Option.bind_eq_some_iff.mp H
 obtain ⟨t517, A70, H⟩ := H
 replace H : (laws_FnEach.l0 k t503 t510 t515 t517 0 t500 t507) = some r := H
 have A7 := aM A70
 clear A70
 have H' := aM H
 clear H
 go_enter Try.func10, Try.ntmps10
 go_wp2_with (first | (go_at_call 15; (with_reducible refine (laws_big.calls _ _ l0 false _ ?side1 ?side2 A2.out).mono ?_); (case side1 => exact qz12); (case side2 => exact HC0.out); rintro e w' ⟨rfl, ⟨nd, rfl⟩⟩; (try first | exact ⟨rfl, _, World.drewN_drewN _ _ _⟩ | exact ⟨rfl, _, Eq.trans (World.drewN_drewN _ _ _) (congrArg (World.drewN _) (Nat.add_assoc _ _ _))⟩)) | (go_at_call 44; (with_reducible refine (spec_DrawHoldAll.calls k _ _ l0 t500 t503 _ ?side1 ?side2 A4.out).mono ?_); (case side1 => exact qz12); (case side2 => exact HC0.out); rintro e w8 ⟨v501, v504, rfl, ho0, ho1, hb⟩; have HO502 := aM (Kd.N_lower (Kd.N_mono (ok' := fun k_ => some k_ ≠ (v504 : Value).ownBlock) ho0 (fun k_ hk_ => hk_.2)) (below_size qz1)); have HO505 := aM (Kd.R_lower (Kd.R_mono (ok' := fun k_ => True) ho1 (fun _ hk_ => trivial)) (below_size qz1)); replace HB := bS_ hb; (try clear hb ho0 ho1)) | ((with_reducible refine gate_dst (N := 3) rfl ?_); (try (refine gate_guard (by rfl) ?_; dsimp only)); refine bx_ 3 #[.slice none 0 0] 26 ?_; intro gb506 hg w9 hbox hb; replace HO502 := aM (Kd.N_below (Kd.N_elderB qz20 gb506 (Nat.le_of_eq hg.symm)) hb); replace HO505 := aM (Kd.R_below (rr_ HO505.out) hb); have BK506 := aM (hbox); have GW506 := aM (bz_ w hg qz1); have GE506 := GW506; replace HB := bS_ hb; clear hb hbox hg; obtain ⟨Ao10, co10, eo10⟩ := Kd.N_slice HO502.out; subst eo10; obtain ⟨hcz11_0, hfz11_0⟩ := bf_ BK506.out; obtain ⟨Ao12, co12, eo12⟩ := Kd.R_slice HO505.out; subst eo12) | (go_at_call 39; (with_reducible refine (impl_HoldAll.calls k _ _ t500 _ _ t503 t507 t510 _ ?side1 ?side2 ?side3 ?side4 A5.out).mono ?_); (case side1 => refine (Kd.N_reads' (e := 79) (base := w.heap.size) (ok := fun k_ => (some k_ ≠ (.slice Ao12 t503.length co12 : Value).ownBlock ∧ k_ ≠ gb506)) (n := t500.length) (c := co10) ?_).2.2; exact (by (with_reducible repeat (first | apply Kd.N_alloc | apply Kd.N_drewN | apply Kd.N_drew)); exact (Kd.N_mono (Kd.N_far (p := ⟨gb506, 0, none⟩) (Kd.N_mono HO502.out (fun k_ hk => (⟨hk, hk.2⟩ : _ ∧ k_ ≠ gb506))) (fun _ hk => hk.2) (.slice Ao10 t500.length co10)) (fun _ h_ => h_.1)))); (case side2 => exact (Kd.N_reads' HO502.out).2.1); (case side3 => refine (Kd.R_reads' (e := 50) (base := w.heap.size) (ok := fun k_ => True) (n := t503.length) (c := co12) ?_).2.2; exact (by (with_reducible repeat (first | apply Kd.R_alloc | apply Kd.R_drewN | apply Kd.R_drew)); exact (Kd.R_mono (Kd.R_far (p := ⟨gb506, 0, none⟩) (Kd.R_types HO505.out BK506.out (by decide)) (fun _ hk => hk.2) (.slice Ao10 t500.length co10)) (fun _ h_ => h_.1)))); (case side4 => exact (Kd.R_reads' HO505.out).2.1); rintro e w13 ⟨v508, rfl, ho0, hb⟩; have HO509 := aM (Kd.N_lower (Kd.N_mono (ok' := fun k_ => some k_ ≠ (.slice Ao10 t500.length co10 : Value).ownBlock ∧ some k_ ≠ (.slice Ao12 t503.length co12 : Value).ownBlock ∧ k_ ≠ gb506) (Kd.S_N (Kd.S_bound ho0)) (fun k_ hk_ => ⟨(Kd.fresh' (Kd.N_lt (by (with_reducible repeat (first | apply Kd.N_alloc | apply Kd.N_drewN | apply Kd.N_drew)); exact (Kd.N_mono (Kd.N_far (p := ⟨gb506, 0, none⟩) (Kd.N_mono HO502.out (fun k_ hk => (⟨hk, hk.2⟩ : _ ∧ k_ ≠ gb506))) (fun _ hk => hk.2) (.slice Ao10 t500.length co10)) (fun _ h_ => h_.1)))) k_ hk_.2.1), (Kd.fresh' (Kd.R_lt (by (with_reducible repeat (first | apply Kd.R_alloc | apply Kd.R_drewN | apply Kd.R_drew)); exact (Kd.R_mono (Kd.R_far (p := ⟨gb506, 0, none⟩) (Kd.R_types HO505.out BK506.out (by decide)) (fun _ hk => hk.2) (.slice Ao10 t500.length co10)) (fun _ h_ => h_.1)))) k_ hk_.2.1), (Kd.freshB (g := gb506) (o := .cells #[.slice Ao10 t500.length co10] 26 (0, 0)) (by (with_reducible repeat (first | refine blk_drewN ?_ _ | refine blk_drew ?_ | refine blk_alloc ?_ _)); refine blk_put (cs := #[.slice none 0 0]) ?_ 0 _ rfl; exact bk_ BK506.out) k_ hk_.2.1)⟩)) (below_size qz1)); replace HO502 := aM (Kd.N_elder' (by (with_reducible repeat (first | apply Kd.N_alloc | apply Kd.N_drewN | apply Kd.N_drew)); exact (Kd.N_mono (Kd.N_far (p := ⟨gb506, 0, none⟩) (Kd.N_mono HO502.out (fun k_ hk => (⟨hk, hk.2⟩ : _ ∧ k_ ≠ gb506))) (fun _ hk => hk.2) (.slice Ao10 t500.length co10)) (fun _ h_ => h_.1))) (Kd.S_base ho0) hb); replace HO505 := aM (Kd.R_below (by (with_reducible repeat (first | apply Kd.R_alloc | apply Kd.R_drewN | apply Kd.R_drew)); exact (Kd.R_mono (Kd.R_far (p := ⟨gb506, 0, none⟩) (Kd.R_types HO505.out BK506.out (by decide)) (fun _ hk => hk.2) (.slice Ao10 t500.length co10)) (fun _ h_ => h_.1))) hb); replace BK506 := aM (blk_below (g := gb506) (o := .cells #[.slice Ao10 t500.length co10] 26 (0, 0)) (by (with_reducible repeat (first | refine blk_drewN ?_ _ | refine blk_drew ?_ | refine blk_alloc ?_ _)); refine blk_put (cs := #[.slice none 0 0]) ?_ 0 _ rfl; exact bk_ BK506.out) hb); replace HB := bS_ hb; (try clear hb ho0)) | ((with_reducible refine gate_dst (N := 5) rfl ?_); (try (refine gate_guard (by rfl) ?_; dsimp only)); refine bx_ 5 #[.slice none 0 0] 26 ?_; intro gb511 hg w14 hbox hb; replace HO502 := aM (Kd.N_below (Kd.N_elderB qz20 gb511 (Nat.le_of_eq hg.symm)) hb); replace HO505 := aM (Kd.R_below (rr_ HO505.out) hb); replace HO509 := aM (Kd.N_below (Kd.N_elderB qz29 gb511 (Nat.le_of_eq hg.symm)) hb); have BK511 := aM (hbox); have GW511 := aM (bz_ w hg qz1); have GE511 := GW511; replace HB := bS_ hb; obtain ⟨NB506_511, NB511_506⟩ := nb_ hg (bk_ BK506.out); replace BK506 := bB_ BK506 hb; clear hb hbox hg; obtain ⟨Ao15, co15, eo15⟩ := Kd.N_slice HO509.out; subst eo15; have hnb16 := NB511_506.out; have hnc16 := NB506_511.out; obtain ⟨hcz17_0, hfz17_0⟩ := bf_ BK511.out; obtain ⟨hcz18_0, hfz18_0⟩ := bf_ BK506.out) | (go_at_call 45; (with_reducible refine (spec_HoldAll.calls k _ _ t500 _ _ t503 t512 t515 _ ?side1 ?side2 ?side3 ?side4 A6.out).mono ?_); (case side1 => refine (Kd.N_reads' (e := 79) (base := w.heap.size) (ok := fun k_ => (((some k_ ≠ (.slice Ao12 t503.length co12 : Value).ownBlock ∧ k_ ≠ gb506) ∧ some k_ ≠ (.slice Ao15 t507.length co15 : Value).ownBlock) ∧ k_ ≠ gb511)) (n := t500.length) (c := co10) ?_).2.2; exact (by (with_reducible repeat (first | apply Kd.N_alloc | apply Kd.N_drewN | apply Kd.N_drew)); exact (Kd.N_mono (Kd.N_far (p := ⟨gb511, 0, none⟩) (Kd.N_mono HO502.out (fun k_ hk => (⟨hk, hk.2⟩ : _ ∧ k_ ≠ gb511))) (fun _ hk => hk.2) (.slice Ao15 t507.length co15)) (fun _ h_ => h_.1)))); (case side2 => exact (Kd.N_reads' HO502.out).2.1); (case side3 => refine (Kd.R_reads' (e := 50) (base := w.heap.size) (ok := fun k_ => True) (n := t503.length) (c := co12) ?_).2.2; exact (by (with_reducible repeat (first | apply Kd.R_alloc | apply Kd.R_drewN | apply Kd.R_drew)); exact (Kd.R_mono (Kd.R_far (p := ⟨gb511, 0, none⟩) (Kd.R_types HO505.out BK511.out (by decide)) (fun _ hk => hk.2) (.slice Ao15 t507.length co15)) (fun _ h_ => h_.1)))); (case side4 => exact (Kd.R_reads' HO505.out).2.1); rintro e w19 ⟨v513, rfl, ho0, hb⟩; have HO514 := aM (Kd.N_lower (Kd.N_mono (ok' := fun k_ => some k_ ≠ (.slice Ao10 t500.length co10 : Value).ownBlock ∧ some k_ ≠ (.slice Ao12 t503.length co12 : Value).ownBlock ∧ some k_ ≠ (.slice Ao15 t507.length co15 : Value).ownBlock ∧ k_ ≠ gb506 ∧ k_ ≠ gb511) (Kd.S_N (Kd.S_bound ho0)) (fun k_ hk_ => ⟨(Kd.fresh' (Kd.N_lt (by (with_reducible repeat (first | apply Kd.N_alloc | apply Kd.N_drewN | apply Kd.N_drew)); exact (Kd.N_mono (Kd.N_far (p := ⟨gb511, 0, none⟩) (Kd.N_mono HO502.out (fun k_ hk => (⟨hk, hk.2⟩ : _ ∧ k_ ≠ gb511))) (fun _ hk => hk.2) (.slice Ao15 t507.length co15)) (fun _ h_ => h_.1)))) k_ hk_.2.1), (Kd.fresh' (Kd.R_lt (by (with_reducible repeat (first | apply Kd.R_alloc | apply Kd.R_drewN | apply Kd.R_drew)); exact (Kd.R_mono (Kd.R_far (p := ⟨gb511, 0, none⟩) (Kd.R_types HO505.out BK511.out (by decide)) (fun _ hk => hk.2) (.slice Ao15 t507.length co15)) (fun _ h_ => h_.1)))) k_ hk_.2.1), (Kd.fresh' (Kd.N_lt (by (with_reducible repeat (first | apply Kd.N_alloc | apply Kd.N_drewN | apply Kd.N_drew)); exact (Kd.N_mono (Kd.N_far (p := ⟨gb511, 0, none⟩) (Kd.N_mono HO509.out (fun k_ hk => (⟨hk, hk.2⟩ : _ ∧ k_ ≠ gb511))) (fun _ hk => hk.2) (.slice Ao15 t507.length co15)) (fun _ h_ => h_.1)))) k_ hk_.2.1), (Kd.freshB (g := gb506) (o := .cells #[.slice Ao10 t500.length co10] 26 (0, 0)) (bk2_ BK506.out) k_ hk_.2.1), (Kd.freshB (g := gb511) (o := .cells #[.slice Ao15 t507.length co15] 26 (0, 0)) (by (with_reducible repeat (first | refine blk_drewN ?_ _ | refine blk_drew ?_ | refine blk_alloc ?_ _)); refine blk_put (cs := #[.slice none 0 0]) ?_ 0 _ rfl; exact bk_ BK511.out) k_ hk_.2.1)⟩)) (below_size qz1)); replace HO502 := aM (Kd.N_elder' (by (with_reducible repeat (first | apply Kd.N_alloc | apply Kd.N_drewN | apply Kd.N_drew)); exact (Kd.N_mono (Kd.N_far (p := ⟨gb511, 0, none⟩) (Kd.N_mono HO502.out (fun k_ hk => (⟨hk, hk.2⟩ : _ ∧ k_ ≠ gb511))) (fun _ hk => hk.2) (.slice Ao15 t507.length co15)) (fun _ h_ => h_.1))) (Kd.S_base ho0) hb); replace HO505 := aM (Kd.R_below (by (with_reducible repeat (first | apply Kd.R_alloc | apply Kd.R_drewN | apply Kd.R_drew)); exact (Kd.R_mono (Kd.R_far (p := ⟨gb511, 0, none⟩) (Kd.R_types HO505.out BK511.out (by decide)) (fun _ hk => hk.2) (.slice Ao15 t507.length co15)) (fun _ h_ => h_.1))) hb); replace HO509 := aM (Kd.N_elder' (by (with_reducible repeat (first | apply Kd.N_alloc | apply Kd.N_drewN | apply Kd.N_drew)); exact (Kd.N_mono (Kd.N_far (p := ⟨gb511, 0, none⟩) (Kd.N_mono HO509.out (fun k_ hk => (⟨hk, hk.2⟩ : _ ∧ k_ ≠ gb511))) (fun _ hk => hk.2) (.slice Ao15 t507.length co15)) (fun _ h_ => h_.1))) (Kd.S_base ho0) hb); replace BK506 := aM (blk_below (g := gb506) (o := .cells #[.slice Ao10 t500.length co10] 26 (0, 0)) (bk2_ BK506.out) hb); replace BK511 := aM (blk_below (g := gb511) (o := .cells #[.slice Ao15 t507.length co15] 26 (0, 0)) (by (with_reducible repeat (first | refine blk_drewN ?_ _ | refine blk_drew ?_ | refine blk_alloc ?_ _)); refine blk_put (cs := #[.slice none 0 0]) ?_ 0 _ rfl; exact bk_ BK511.out) hb); replace HB := bS_ hb; (try clear hb ho0)) | ((with_reducible refine gate_dst (N := 7) rfl ?_); (try (refine gate_guard (by rfl) ?_; dsimp only)); refine bx_ 7 #[.slice none 0 0] 26 ?_; intro gb516 hg w20 hbox hb; replace HO502 := aM (Kd.N_below (Kd.N_elderB qz20 gb516 (Nat.le_of_eq hg.symm)) hb); replace HO505 := aM (Kd.R_below (rr_ HO505.out) hb); replace HO509 := aM (Kd.N_below (Kd.N_elderB qz29 gb516 (Nat.le_of_eq hg.symm)) hb); replace HO514 := aM (Kd.N_below (Kd.N_elderB qz43 gb516 (Nat.le_of_eq hg.symm)) hb); have BK516 := aM (hbox); have GW516 := aM (bz_ w hg qz1); have GE516 := GW516; replace HB := bS_ hb; obtain ⟨NB506_516, NB516_506⟩ := nb_ hg (bk_ BK506.out); replace BK506 := bB_ BK506 hb; obtain ⟨NB511_516, NB516_511⟩ := nb_ hg (bk_ BK511.out); replace BK511 := bB_ BK511 hb; clear hb hbox hg; obtain ⟨Ao21, co21, eo21⟩ := Kd.N_slice HO514.out; subst eo21; have hnb22 := NB516_506.out; have hnc22 := NB506_516.out; have hnb23 := NB516_511.out; have hnc23 := NB511_516.out; obtain ⟨hcz24_0, hfz24_0⟩ := bf_ BK516.out) | (go_at_call 42; (with_reducible refine (impl_PodsOf.calls k _ _ t503 t517 _ ?side1 ?side2 A7.out).mono ?_); (case side1 => refine (Kd.R_reads' (e := 50) (base := w.heap.size) (ok := fun k_ => True) (n := t503.length) (c := co12) ?_).2.2; exact (by (with_reducible repeat (first | apply Kd.R_alloc | apply Kd.R_drewN | apply Kd.R_drew)); exact (Kd.R_mono (Kd.R_far (p := ⟨gb516, 0, none⟩) (Kd.R_types HO505.out BK516.out (by decide)) (fun _ hk => hk.2) (.slice Ao21 t512.length co21)) (fun _ h_ => h_.1)))); (case side2 => exact (Kd.R_reads' HO505.out).2.1); rintro e w25 ⟨v518, rfl, ho0, hb⟩; replace HO502 := aM (Kd.N_elder' (by (with_reducible repeat (first | apply Kd.N_alloc | apply Kd.N_drewN | apply Kd.N_drew)); exact (Kd.N_mono (Kd.N_far (p := ⟨gb516, 0, none⟩) (Kd.N_mono HO502.out (fun k_ hk => (⟨hk, hk.2⟩ : _ ∧ k_ ≠ gb516))) (fun _ hk => hk.2) (.slice Ao21 t512.length co21)) (fun _ h_ => h_.1))) (Kd.R_base ho0) hb); replace HO505 := aM (Kd.R_below (by (with_reducible repeat (first | apply Kd.R_alloc | apply Kd.R_drewN | apply Kd.R_drew)); exact (Kd.R_mono (Kd.R_far (p := ⟨gb516, 0, none⟩) (Kd.R_types HO505.out BK516.out (by decide)) (fun _ hk => hk.2) (.slice Ao21 t512.length co21)) (fun _ h_ => h_.1))) hb); replace HO509 := aM (Kd.N_elder' (by (with_reducible repeat (first | apply Kd.N_alloc | apply Kd.N_drewN | apply Kd.N_drew)); exact (Kd.N_mono (Kd.N_far (p := ⟨gb516, 0, none⟩) (Kd.N_mono HO509.out (fun k_ hk => (⟨hk, hk.2⟩ : _ ∧ k_ ≠ gb516))) (fun _ hk => hk.2) (.slice Ao21 t512.length co21)) (fun _ h_ => h_.1))) (Kd.R_base ho0) hb); replace HO514 := aM (Kd.N_elder' (by (with_reducible repeat (first | apply Kd.N_alloc | apply Kd.N_drewN | apply Kd.N_drew)); exact (Kd.N_mono (Kd.N_far (p := ⟨gb516, 0, none⟩) (Kd.N_mono HO514.out (fun k_ hk => (⟨hk, hk.2⟩ : _ ∧ k_ ≠ gb516))) (fun _ hk => hk.2) (.slice Ao21 t512.length co21)) (fun _ h_ => h_.1))) (Kd.R_base ho0) hb); have HO519 := aM (Kd.R_lower ho0 (below_size qz1)); replace BK506 := aM (blk_below (g := gb506) (o := .cells #[.slice Ao10 t500.length co10] 26 (0, 0)) (bk2_ BK506.out) hb); replace BK511 := aM (blk_below (g := gb511) (o := .cells #[.slice Ao15 t507.length co15] 26 (0, 0)) (bk2_ BK511.out) hb); replace BK516 := aM (blk_below (g := gb516) (o := .cells #[.slice Ao21 t512.length co21] 26 (0, 0)) (by (with_reducible repeat (first | refine blk_drewN ?_ _ | refine blk_drew ?_ | refine blk_alloc ?_ _)); refine blk_put (cs := #[.slice none 0 0]) ?_ 0 _ rfl; exact bk_ BK516.out) hb); replace HB := bS_ hb; (try clear hb ho0)))
 repeat (go_quiet (first | (go_at_call 15; (with_reducible refine (laws_big.calls _ _ l0 false _ ?side1 ?side2 A2.out).mono ?_); (case side1 => exact qz12); (case side2 => exact HC0.out); rintro e w' ⟨rfl, ⟨nd, rfl⟩⟩; (try first | exact ⟨rfl, _, World.drewN_drewN _ _ _⟩ | exact ⟨rfl, _, Eq.trans (World.drewN_drewN _ _ _) (congrArg (World.drewN _) (Nat.add_assoc _ _ _))⟩)) | (go_at_call 44; (with_reducible refine (spec_DrawHoldAll.calls k _ _ l0 t500 t503 _ ?side1 ?side2 A4.out).mono ?_); (case side1 => exact qz12); (case side2 => exact HC0.out); rintro e w8 ⟨v501, v504, rfl, ho0, ho1, hb⟩; have HO502 := aM (Kd.N_lower (Kd.N_mono (ok' := fun k_ => some k_ ≠ (v504 : Value).ownBlock) ho0 (fun k_ hk_ => hk_.2)) (below_size qz1)); have HO505 := aM (Kd.R_lower (Kd.R_mono (ok' := fun k_ => True) ho1 (fun _ hk_ => trivial)) (below_size qz1)); replace HB := bS_ hb; (try clear hb ho0 ho1)) | ((with_reducible refine gate_dst (N := 3) rfl ?_); (try (refine gate_guard (by rfl) ?_; dsimp only)); refine bx_ 3 #[.slice none 0 0] 26 ?_; intro gb506 hg w9 hbox hb; replace HO502 := aM (Kd.N_below (Kd.N_elderB qz20 gb506 (Nat.le_of_eq hg.symm)) hb); replace HO505 := aM (Kd.R_below (rr_ HO505.out) hb); have BK506 := aM (hbox); have GW506 := aM (bz_ w hg qz1); have GE506 := GW506; replace HB := bS_ hb; clear hb hbox hg; obtain ⟨Ao10, co10, eo10⟩ := Kd.N_slice HO502.out; subst eo10; obtain ⟨hcz11_0, hfz11_0⟩ := bf_ BK506.out; obtain ⟨Ao12, co12, eo12⟩ := Kd.R_slice HO505.out; subst eo12) | (go_at_call 39; (with_reducible refine (impl_HoldAll.calls k _ _ t500 _ _ t503 t507 t510 _ ?side1 ?side2 ?side3 ?side4 A5.out).mono ?_); (case side1 => refine (Kd.N_reads' (e := 79) (base := w.heap.size) (ok := fun k_ => (some k_ ≠ (.slice Ao12 t503.length co12 : Value).ownBlock ∧ k_ ≠ gb506)) (n := t500.length) (c := co10) ?_).2.2; exact (by (with_reducible repeat (first | apply Kd.N_alloc | apply Kd.N_drewN | apply Kd.N_drew)); exact (Kd.N_mono (Kd.N_far (p := ⟨gb506, 0, none⟩) (Kd.N_mono HO502.out (fun k_ hk => (⟨hk, hk.2⟩ : _ ∧ k_ ≠ gb506))) (fun _ hk => hk.2) (.slice Ao10 t500.length co10)) (fun _ h_ => h_.1)))); (case side2 => exact (Kd.N_reads' HO502.out).2.1); (case side3 => refine (Kd.R_reads' (e := 50) (base := w.heap.size) (ok := fun k_ => True) (n := t503.length) (c := co12) ?_).2.2; exact (by (with_reducible repeat (first | apply Kd.R_alloc | apply Kd.R_drewN | apply Kd.R_drew)); exact (Kd.R_mono (Kd.R_far (p := ⟨gb506, 0, none⟩) (Kd.R_types HO505.out BK506.out (by decide)) (fun _ hk => hk.2) (.slice Ao10 t500.length co10)) (fun _ h_ => h_.1)))); (case side4 => exact (Kd.R_reads' HO505.out).2.1); rintro e w13 ⟨v508, rfl, ho0, hb⟩; have HO509 := aM (Kd.N_lower (Kd.N_mono (ok' := fun k_ => some k_ ≠ (.slice Ao10 t500.length co10 : Value).ownBlock ∧ some k_ ≠ (.slice Ao12 t503.length co12 : Value).ownBlock ∧ k_ ≠ gb506) (Kd.S_N (Kd.S_bound ho0)) (fun k_ hk_ => ⟨(Kd.fresh' (Kd.N_lt (by (with_reducible repeat (first | apply Kd.N_alloc | apply Kd.N_drewN | apply Kd.N_drew)); exact (Kd.N_mono (Kd.N_far (p := ⟨gb506, 0, none⟩) (Kd.N_mono HO502.out (fun k_ hk => (⟨hk, hk.2⟩ : _ ∧ k_ ≠ gb506))) (fun _ hk => hk.2) (.slice Ao10 t500.length co10)) (fun _ h_ => h_.1)))) k_ hk_.2.1), (Kd.fresh' (Kd.R_lt (by (with_reducible repeat (first | apply Kd.R_alloc | apply Kd.R_drewN | apply Kd.R_drew)); exact (Kd.R_mono (Kd.R_far (p := ⟨gb506, 0, none⟩) (Kd.R_types HO505.out BK506.out (by decide)) (fun _ hk => hk.2) (.slice Ao10 t500.length co10)) (fun _ h_ => h_.1)))) k_ hk_.2.1), (Kd.freshB (g := gb506) (o := .cells #[.slice Ao10 t500.length co10] 26 (0, 0)) (by (with_reducible repeat (first | refine blk_drewN ?_ _ | refine blk_drew ?_ | refine blk_alloc ?_ _)); refine blk_put (cs := #[.slice none 0 0]) ?_ 0 _ rfl; exact bk_ BK506.out) k_ hk_.2.1)⟩)) (below_size qz1)); replace HO502 := aM (Kd.N_elder' (by (with_reducible repeat (first | apply Kd.N_alloc | apply Kd.N_drewN | apply Kd.N_drew)); exact (Kd.N_mono (Kd.N_far (p := ⟨gb506, 0, none⟩) (Kd.N_mono HO502.out (fun k_ hk => (⟨hk, hk.2⟩ : _ ∧ k_ ≠ gb506))) (fun _ hk => hk.2) (.slice Ao10 t500.length co10)) (fun _ h_ => h_.1))) (Kd.S_base ho0) hb); replace HO505 := aM (Kd.R_below (by (with_reducible repeat (first | apply Kd.R_alloc | apply Kd.R_drewN | apply Kd.R_drew)); exact (Kd.R_mono (Kd.R_far (p := ⟨gb506, 0, none⟩) (Kd.R_types HO505.out BK506.out (by decide)) (fun _ hk => hk.2) (.slice Ao10 t500.length co10)) (fun _ h_ => h_.1))) hb); replace BK506 := aM (blk_below (g := gb506) (o := .cells #[.slice Ao10 t500.length co10] 26 (0, 0)) (by (with_reducible repeat (first | refine blk_drewN ?_ _ | refine blk_drew ?_ | refine blk_alloc ?_ _)); refine blk_put (cs := #[.slice none 0 0]) ?_ 0 _ rfl; exact bk_ BK506.out) hb); replace HB := bS_ hb; (try clear hb ho0)) | ((with_reducible refine gate_dst (N := 5) rfl ?_); (try (refine gate_guard (by rfl) ?_; dsimp only)); refine bx_ 5 #[.slice none 0 0] 26 ?_; intro gb511 hg w14 hbox hb; replace HO502 := aM (Kd.N_below (Kd.N_elderB qz20 gb511 (Nat.le_of_eq hg.symm)) hb); replace HO505 := aM (Kd.R_below (rr_ HO505.out) hb); replace HO509 := aM (Kd.N_below (Kd.N_elderB qz29 gb511 (Nat.le_of_eq hg.symm)) hb); have BK511 := aM (hbox); have GW511 := aM (bz_ w hg qz1); have GE511 := GW511; replace HB := bS_ hb; obtain ⟨NB506_511, NB511_506⟩ := nb_ hg (bk_ BK506.out); replace BK506 := bB_ BK506 hb; clear hb hbox hg; obtain ⟨Ao15, co15, eo15⟩ := Kd.N_slice HO509.out; subst eo15; have hnb16 := NB511_506.out; have hnc16 := NB506_511.out; obtain ⟨hcz17_0, hfz17_0⟩ := bf_ BK511.out; obtain ⟨hcz18_0, hfz18_0⟩ := bf_ BK506.out) | (go_at_call 45; (with_reducible refine (spec_HoldAll.calls k _ _ t500 _ _ t503 t512 t515 _ ?side1 ?side2 ?side3 ?side4 A6.out).mono ?_); (case side1 => refine (Kd.N_reads' (e := 79) (base := w.heap.size) (ok := fun k_ => (((some k_ ≠ (.slice Ao12 t503.length co12 : Value).ownBlock ∧ k_ ≠ gb506) ∧ some k_ ≠ (.slice Ao15 t507.length co15 : Value).ownBlock) ∧ k_ ≠ gb511)) (n := t500.length) (c := co10) ?_).2.2; exact (by (with_reducible repeat (first | apply Kd.N_alloc | apply Kd.N_drewN | apply Kd.N_drew)); exact (Kd.N_mono (Kd.N_far (p := ⟨gb511, 0, none⟩) (Kd.N_mono HO502.out (fun k_ hk => (⟨hk, hk.2⟩ : _ ∧ k_ ≠ gb511))) (fun _ hk => hk.2) (.slice Ao15 t507.length co15)) (fun _ h_ => h_.1)))); (case side2 => exact (Kd.N_reads' HO502.out).2.1); (case side3 => refine (Kd.R_reads' (e := 50) (base := w.heap.size) (ok := fun k_ => True) (n := t503.length) (c := co12) ?_).2.2; exact (by (with_reducible repeat (first | apply Kd.R_alloc | apply Kd.R_drewN | apply Kd.R_drew)); exact (Kd.R_mono (Kd.R_far (p := ⟨gb511, 0, none⟩) (Kd.R_types HO505.out BK511.out (by decide)) (fun _ hk => hk.2) (.slice Ao15 t507.length co15)) (fun _ h_ => h_.1)))); (case side4 => exact (Kd.R_reads' HO505.out).2.1); rintro e w19 ⟨v513, rfl, ho0, hb⟩; have HO514 := aM (Kd.N_lower (Kd.N_mono (ok' := fun k_ => some k_ ≠ (.slice Ao10 t500.length co10 : Value).ownBlock ∧ some k_ ≠ (.slice Ao12 t503.length co12 : Value).ownBlock ∧ some k_ ≠ (.slice Ao15 t507.length co15 : Value).ownBlock ∧ k_ ≠ gb506 ∧ k_ ≠ gb511) (Kd.S_N (Kd.S_bound ho0)) (fun k_ hk_ => ⟨(Kd.fresh' (Kd.N_lt (by (with_reducible repeat (first | apply Kd.N_alloc | apply Kd.N_drewN | apply Kd.N_drew)); exact (Kd.N_mono (Kd.N_far (p := ⟨gb511, 0, none⟩) (Kd.N_mono HO502.out (fun k_ hk => (⟨hk, hk.2⟩ : _ ∧ k_ ≠ gb511))) (fun _ hk => hk.2) (.slice Ao15 t507.length co15)) (fun _ h_ => h_.1)))) k_ hk_.2.1), (Kd.fresh' (Kd.R_lt (by (with_reducible repeat (first | apply Kd.R_alloc | apply Kd.R_drewN | apply Kd.R_drew)); exact (Kd.R_mono (Kd.R_far (p := ⟨gb511, 0, none⟩) (Kd.R_types HO505.out BK511.out (by decide)) (fun _ hk => hk.2) (.slice Ao15 t507.length co15)) (fun _ h_ => h_.1)))) k_ hk_.2.1), (Kd.fresh' (Kd.N_lt (by (with_reducible repeat (first | apply Kd.N_alloc | apply Kd.N_drewN | apply Kd.N_drew)); exact (Kd.N_mono (Kd.N_far (p := ⟨gb511, 0, none⟩) (Kd.N_mono HO509.out (fun k_ hk => (⟨hk, hk.2⟩ : _ ∧ k_ ≠ gb511))) (fun _ hk => hk.2) (.slice Ao15 t507.length co15)) (fun _ h_ => h_.1)))) k_ hk_.2.1), (Kd.freshB (g := gb506) (o := .cells #[.slice Ao10 t500.length co10] 26 (0, 0)) (bk2_ BK506.out) k_ hk_.2.1), (Kd.freshB (g := gb511) (o := .cells #[.slice Ao15 t507.length co15] 26 (0, 0)) (by (with_reducible repeat (first | refine blk_drewN ?_ _ | refine blk_drew ?_ | refine blk_alloc ?_ _)); refine blk_put (cs := #[.slice none 0 0]) ?_ 0 _ rfl; exact bk_ BK511.out) k_ hk_.2.1)⟩)) (below_size qz1)); replace HO502 := aM (Kd.N_elder' (by (with_reducible repeat (first | apply Kd.N_alloc | apply Kd.N_drewN | apply Kd.N_drew)); exact (Kd.N_mono (Kd.N_far (p := ⟨gb511, 0, none⟩) (Kd.N_mono HO502.out (fun k_ hk => (⟨hk, hk.2⟩ : _ ∧ k_ ≠ gb511))) (fun _ hk => hk.2) (.slice Ao15 t507.length co15)) (fun _ h_ => h_.1))) (Kd.S_base ho0) hb); replace HO505 := aM (Kd.R_below (by (with_reducible repeat (first | apply Kd.R_alloc | apply Kd.R_drewN | apply Kd.R_drew)); exact (Kd.R_mono (Kd.R_far (p := ⟨gb511, 0, none⟩) (Kd.R_types HO505.out BK511.out (by decide)) (fun _ hk => hk.2) (.slice Ao15 t507.length co15)) (fun _ h_ => h_.1))) hb); replace HO509 := aM (Kd.N_elder' (by (with_reducible repeat (first | apply Kd.N_alloc | apply Kd.N_drewN | apply Kd.N_drew)); exact (Kd.N_mono (Kd.N_far (p := ⟨gb511, 0, none⟩) (Kd.N_mono HO509.out (fun k_ hk => (⟨hk, hk.2⟩ : _ ∧ k_ ≠ gb511))) (fun _ hk => hk.2) (.slice Ao15 t507.length co15)) (fun _ h_ => h_.1))) (Kd.S_base ho0) hb); replace BK506 := aM (blk_below (g := gb506) (o := .cells #[.slice Ao10 t500.length co10] 26 (0, 0)) (bk2_ BK506.out) hb); replace BK511 := aM (blk_below (g := gb511) (o := .cells #[.slice Ao15 t507.length co15] 26 (0, 0)) (by (with_reducible repeat (first | refine blk_drewN ?_ _ | refine blk_drew ?_ | refine blk_alloc ?_ _)); refine blk_put (cs := #[.slice none 0 0]) ?_ 0 _ rfl; exact bk_ BK511.out) hb); replace HB := bS_ hb; (try clear hb ho0)) | ((with_reducible refine gate_dst (N := 7) rfl ?_); (try (refine gate_guard (by rfl) ?_; dsimp only)); refine bx_ 7 #[.slice none 0 0] 26 ?_; intro gb516 hg w20 hbox hb; replace HO502 := aM (Kd.N_below (Kd.N_elderB qz20 gb516 (Nat.le_of_eq hg.symm)) hb); replace HO505 := aM (Kd.R_below (rr_ HO505.out) hb); replace HO509 := aM (Kd.N_below (Kd.N_elderB qz29 gb516 (Nat.le_of_eq hg.symm)) hb); replace HO514 := aM (Kd.N_below (Kd.N_elderB qz43 gb516 (Nat.le_of_eq hg.symm)) hb); have BK516 := aM (hbox); have GW516 := aM (bz_ w hg qz1); have GE516 := GW516; replace HB := bS_ hb; obtain ⟨NB506_516, NB516_506⟩ := nb_ hg (bk_ BK506.out); replace BK506 := bB_ BK506 hb; obtain ⟨NB511_516, NB516_511⟩ := nb_ hg (bk_ BK511.out); replace BK511 := bB_ BK511 hb; clear hb hbox hg; obtain ⟨Ao21, co21, eo21⟩ := Kd.N_slice HO514.out; subst eo21; have hnb22 := NB516_506.out; have hnc22 := NB506_516.out; have hnb23 := NB516_511.out; have hnc23 := NB511_516.out; obtain ⟨hcz24_0, hfz24_0⟩ := bf_ BK516.out) | (go_at_call 42; (with_reducible refine (impl_PodsOf.calls k _ _ t503 t517 _ ?side1 ?side2 A7.out).mono ?_); (case side1 => refine (Kd.R_reads' (e := 50) (base := w.heap.size) (ok := fun k_ => True) (n := t503.length) (c := co12) ?_).2.2; exact (by (with_reducible repeat (first | apply Kd.R_alloc | apply Kd.R_drewN | apply Kd.R_drew)); exact (Kd.R_mono (Kd.R_far (p := ⟨gb516, 0, none⟩) (Kd.R_types HO505.out BK516.out (by decide)) (fun _ hk => hk.2) (.slice Ao21 t512.length co21)) (fun _ h_ => h_.1)))); (case side2 => exact (Kd.R_reads' HO505.out).2.1); rintro e w25 ⟨v518, rfl, ho0, hb⟩; replace HO502 := aM (Kd.N_elder' (by (with_reducible repeat (first | apply Kd.N_alloc | apply Kd.N_drewN | apply Kd.N_drew)); exact (Kd.N_mono (Kd.N_far (p := ⟨gb516, 0, none⟩) (Kd.N_mono HO502.out (fun k_ hk => (⟨hk, hk.2⟩ : _ ∧ k_ ≠ gb516))) (fun _ hk => hk.2) (.slice Ao21 t512.length co21)) (fun _ h_ => h_.1))) (Kd.R_base ho0) hb); replace HO505 := aM (Kd.R_below (by (with_reducible repeat (first | apply Kd.R_alloc | apply Kd.R_drewN | apply Kd.R_drew)); exact (Kd.R_mono (Kd.R_far (p := ⟨gb516, 0, none⟩) (Kd.R_types HO505.out BK516.out (by decide)) (fun _ hk => hk.2) (.slice Ao21 t512.length co21)) (fun _ h_ => h_.1))) hb); replace HO509 := aM (Kd.N_elder' (by (with_reducible repeat (first | apply Kd.N_alloc | apply Kd.N_drewN | apply Kd.N_drew)); exact (Kd.N_mono (Kd.N_far (p := ⟨gb516, 0, none⟩) (Kd.N_mono HO509.out (fun k_ hk => (⟨hk, hk.2⟩ : _ ∧ k_ ≠ gb516))) (fun _ hk => hk.2) (.slice Ao21 t512.length co21)) (fun _ h_ => h_.1))) (Kd.R_base ho0) hb); replace HO514 := aM (Kd.N_elder' (by (with_reducible repeat (first | apply Kd.N_alloc | apply Kd.N_drewN | apply Kd.N_drew)); exact (Kd.N_mono (Kd.N_far (p := ⟨gb516, 0, none⟩) (Kd.N_mono HO514.out (fun k_ hk => (⟨hk, hk.2⟩ : _ ∧ k_ ≠ gb516))) (fun _ hk => hk.2) (.slice Ao21 t512.length co21)) (fun _ h_ => h_.1))) (Kd.R_base ho0) hb); have HO519 := aM (Kd.R_lower ho0 (below_size qz1)); replace BK506 := aM (blk_below (g := gb506) (o := .cells #[.slice Ao10 t500.length co10] 26 (0, 0)) (bk2_ BK506.out) hb); replace BK511 := aM (blk_below (g := gb511) (o := .cells #[.slice Ao15 t507.length co15] 26 (0, 0)) (bk2_ BK511.out) hb); replace BK516 := aM (blk_below (g := gb516) (o := .cells #[.slice Ao21 t512.length co21] 26 (0, 0)) (by (with_reducible repeat (first | refine blk_drewN ?_ _ | refine blk_drew ?_ | refine blk_alloc ?_ _)); refine blk_put (cs := #[.slice none 0 0]) ?_ 0 _ rfl; exact bk_ BK516.out) hb); replace HB := bS_ hb; (try clear hb ho0))); try go_wp2_with (first | (go_at_call 15; (with_reducible refine (laws_big.calls _ _ l0 false _ ?side1 ?side2 A2.out).mono ?_); (case side1 => exact qz12); (case side2 => exact HC0.out); rintro e w' ⟨rfl, ⟨nd, rfl⟩⟩; (try first | exact ⟨rfl, _, World.drewN_drewN _ _ _⟩ | exact ⟨rfl, _, Eq.trans (World.drewN_drewN _ _ _) (congrArg (World.drewN _) (Nat.add_assoc _ _ _))⟩)) | (go_at_call 44; (with_reducible refine (spec_DrawHoldAll.calls k _ _ l0 t500 t503 _ ?side1 ?side2 A4.out).mono ?_); (case side1 => exact qz12); (case side2 => exact HC0.out); rintro e w8 ⟨v501, v504, rfl, ho0, ho1, hb⟩; have HO502 := aM (Kd.N_lower (Kd.N_mono (ok' := fun k_ => some k_ ≠ (v504 : Value).ownBlock) ho0 (fun k_ hk_ => hk_.2)) (below_size qz1)); have HO505 := aM (Kd.R_lower (Kd.R_mono (ok' := fun k_ => True) ho1 (fun _ hk_ => trivial)) (below_size qz1)); replace HB := bS_ hb; (try clear hb ho0 ho1)) | ((with_reducible refine gate_dst (N := 3) rfl ?_); (try (refine gate_guard (by rfl) ?_; dsimp only)); refine bx_ 3 #[.slice none 0 0] 26 ?_; intro gb506 hg w9 hbox hb; replace HO502 := aM (Kd.N_below (Kd.N_elderB qz20 gb506 (Nat.le_of_eq hg.symm)) hb); replace HO505 := aM (Kd.R_below (rr_ HO505.out) hb); have BK506 := aM (hbox); have GW506 := aM (bz_ w hg qz1); have GE506 := GW506; replace HB := bS_ hb; clear hb hbox hg; obtain ⟨Ao10, co10, eo10⟩ := Kd.N_slice HO502.out; subst eo10; obtain ⟨hcz11_0, hfz11_0⟩ := bf_ BK506.out; obtain ⟨Ao12, co12, eo12⟩ := Kd.R_slice HO505.out; subst eo12) | (go_at_call 39; (with_reducible refine (impl_HoldAll.calls k _ _ t500 _ _ t503 t507 t510 _ ?side1 ?side2 ?side3 ?side4 A5.out).mono ?_); (case side1 => refine (Kd.N_reads' (e := 79) (base := w.heap.size) (ok := fun k_ => (some k_ ≠ (.slice Ao12 t503.length co12 : Value).ownBlock ∧ k_ ≠ gb506)) (n := t500.length) (c := co10) ?_).2.2; exact (by (with_reducible repeat (first | apply Kd.N_alloc | apply Kd.N_drewN | apply Kd.N_drew)); exact (Kd.N_mono (Kd.N_far (p := ⟨gb506, 0, none⟩) (Kd.N_mono HO502.out (fun k_ hk => (⟨hk, hk.2⟩ : _ ∧ k_ ≠ gb506))) (fun _ hk => hk.2) (.slice Ao10 t500.length co10)) (fun _ h_ => h_.1)))); (case side2 => exact (Kd.N_reads' HO502.out).2.1); (case side3 => refine (Kd.R_reads' (e := 50) (base := w.heap.size) (ok := fun k_ => True) (n := t503.length) (c := co12) ?_).2.2; exact (by (with_reducible repeat (first | apply Kd.R_alloc | apply Kd.R_drewN | apply Kd.R_drew)); exact (Kd.R_mono (Kd.R_far (p := ⟨gb506, 0, none⟩) (Kd.R_types HO505.out BK506.out (by decide)) (fun _ hk => hk.2) (.slice Ao10 t500.length co10)) (fun _ h_ => h_.1)))); (case side4 => exact (Kd.R_reads' HO505.out).2.1); rintro e w13 ⟨v508, rfl, ho0, hb⟩; have HO509 := aM (Kd.N_lower (Kd.N_mono (ok' := fun k_ => some k_ ≠ (.slice Ao10 t500.length co10 : Value).ownBlock ∧ some k_ ≠ (.slice Ao12 t503.length co12 : Value).ownBlock ∧ k_ ≠ gb506) (Kd.S_N (Kd.S_bound ho0)) (fun k_ hk_ => ⟨(Kd.fresh' (Kd.N_lt (by (with_reducible repeat (first | apply Kd.N_alloc | apply Kd.N_drewN | apply Kd.N_drew)); exact (Kd.N_mono (Kd.N_far (p := ⟨gb506, 0, none⟩) (Kd.N_mono HO502.out (fun k_ hk => (⟨hk, hk.2⟩ : _ ∧ k_ ≠ gb506))) (fun _ hk => hk.2) (.slice Ao10 t500.length co10)) (fun _ h_ => h_.1)))) k_ hk_.2.1), (Kd.fresh' (Kd.R_lt (by (with_reducible repeat (first | apply Kd.R_alloc | apply Kd.R_drewN | apply Kd.R_drew)); exact (Kd.R_mono (Kd.R_far (p := ⟨gb506, 0, none⟩) (Kd.R_types HO505.out BK506.out (by decide)) (fun _ hk => hk.2) (.slice Ao10 t500.length co10)) (fun _ h_ => h_.1)))) k_ hk_.2.1), (Kd.freshB (g := gb506) (o := .cells #[.slice Ao10 t500.length co10] 26 (0, 0)) (by (with_reducible repeat (first | refine blk_drewN ?_ _ | refine blk_drew ?_ | refine blk_alloc ?_ _)); refine blk_put (cs := #[.slice none 0 0]) ?_ 0 _ rfl; exact bk_ BK506.out) k_ hk_.2.1)⟩)) (below_size qz1)); replace HO502 := aM (Kd.N_elder' (by (with_reducible repeat (first | apply Kd.N_alloc | apply Kd.N_drewN | apply Kd.N_drew)); exact (Kd.N_mono (Kd.N_far (p := ⟨gb506, 0, none⟩) (Kd.N_mono HO502.out (fun k_ hk => (⟨hk, hk.2⟩ : _ ∧ k_ ≠ gb506))) (fun _ hk => hk.2) (.slice Ao10 t500.length co10)) (fun _ h_ => h_.1))) (Kd.S_base ho0) hb); replace HO505 := aM (Kd.R_below (by (with_reducible repeat (first | apply Kd.R_alloc | apply Kd.R_drewN | apply Kd.R_drew)); exact (Kd.R_mono (Kd.R_far (p := ⟨gb506, 0, none⟩) (Kd.R_types HO505.out BK506.out (by decide)) (fun _ hk => hk.2) (.slice Ao10 t500.length co10)) (fun _ h_ => h_.1))) hb); replace BK506 := aM (blk_below (g := gb506) (o := .cells #[.slice Ao10 t500.length co10] 26 (0, 0)) (by (with_reducible repeat (first | refine blk_drewN ?_ _ | refine blk_drew ?_ | refine blk_alloc ?_ _)); refine blk_put (cs := #[.slice none 0 0]) ?_ 0 _ rfl; exact bk_ BK506.out) hb); replace HB := bS_ hb; (try clear hb ho0)) | ((with_reducible refine gate_dst (N := 5) rfl ?_); (try (refine gate_guard (by rfl) ?_; dsimp only)); refine bx_ 5 #[.slice none 0 0] 26 ?_; intro gb511 hg w14 hbox hb; replace HO502 := aM (Kd.N_below (Kd.N_elderB qz20 gb511 (Nat.le_of_eq hg.symm)) hb); replace HO505 := aM (Kd.R_below (rr_ HO505.out) hb); replace HO509 := aM (Kd.N_below (Kd.N_elderB qz29 gb511 (Nat.le_of_eq hg.symm)) hb); have BK511 := aM (hbox); have GW511 := aM (bz_ w hg qz1); have GE511 := GW511; replace HB := bS_ hb; obtain ⟨NB506_511, NB511_506⟩ := nb_ hg (bk_ BK506.out); replace BK506 := bB_ BK506 hb; clear hb hbox hg; obtain ⟨Ao15, co15, eo15⟩ := Kd.N_slice HO509.out; subst eo15; have hnb16 := NB511_506.out; have hnc16 := NB506_511.out; obtain ⟨hcz17_0, hfz17_0⟩ := bf_ BK511.out; obtain ⟨hcz18_0, hfz18_0⟩ := bf_ BK506.out) | (go_at_call 45; (with_reducible refine (spec_HoldAll.calls k _ _ t500 _ _ t503 t512 t515 _ ?side1 ?side2 ?side3 ?side4 A6.out).mono ?_); (case side1 => refine (Kd.N_reads' (e := 79) (base := w.heap.size) (ok := fun k_ => (((some k_ ≠ (.slice Ao12 t503.length co12 : Value).ownBlock ∧ k_ ≠ gb506) ∧ some k_ ≠ (.slice Ao15 t507.length co15 : Value).ownBlock) ∧ k_ ≠ gb511)) (n := t500.length) (c := co10) ?_).2.2; exact (by (with_reducible repeat (first | apply Kd.N_alloc | apply Kd.N_drewN | apply Kd.N_drew)); exact (Kd.N_mono (Kd.N_far (p := ⟨gb511, 0, none⟩) (Kd.N_mono HO502.out (fun k_ hk => (⟨hk, hk.2⟩ : _ ∧ k_ ≠ gb511))) (fun _ hk => hk.2) (.slice Ao15 t507.length co15)) (fun _ h_ => h_.1)))); (case side2 => exact (Kd.N_reads' HO502.out).2.1); (case side3 => refine (Kd.R_reads' (e := 50) (base := w.heap.size) (ok := fun k_ => True) (n := t503.length) (c := co12) ?_).2.2; exact (by (with_reducible repeat (first | apply Kd.R_alloc | apply Kd.R_drewN | apply Kd.R_drew)); exact (Kd.R_mono (Kd.R_far (p := ⟨gb511, 0, none⟩) (Kd.R_types HO505.out BK511.out (by decide)) (fun _ hk => hk.2) (.slice Ao15 t507.length co15)) (fun _ h_ => h_.1)))); (case side4 => exact (Kd.R_reads' HO505.out).2.1); rintro e w19 ⟨v513, rfl, ho0, hb⟩; have HO514 := aM (Kd.N_lower (Kd.N_mono (ok' := fun k_ => some k_ ≠ (.slice Ao10 t500.length co10 : Value).ownBlock ∧ some k_ ≠ (.slice Ao12 t503.length co12 : Value).ownBlock ∧ some k_ ≠ (.slice Ao15 t507.length co15 : Value).ownBlock ∧ k_ ≠ gb506 ∧ k_ ≠ gb511) (Kd.S_N (Kd.S_bound ho0)) (fun k_ hk_ => ⟨(Kd.fresh' (Kd.N_lt (by (with_reducible repeat (first | apply Kd.N_alloc | apply Kd.N_drewN | apply Kd.N_drew)); exact (Kd.N_mono (Kd.N_far (p := ⟨gb511, 0, none⟩) (Kd.N_mono HO502.out (fun k_ hk => (⟨hk, hk.2⟩ : _ ∧ k_ ≠ gb511))) (fun _ hk => hk.2) (.slice Ao15 t507.length co15)) (fun _ h_ => h_.1)))) k_ hk_.2.1), (Kd.fresh' (Kd.R_lt (by (with_reducible repeat (first | apply Kd.R_alloc | apply Kd.R_drewN | apply Kd.R_drew)); exact (Kd.R_mono (Kd.R_far (p := ⟨gb511, 0, none⟩) (Kd.R_types HO505.out BK511.out (by decide)) (fun _ hk => hk.2) (.slice Ao15 t507.length co15)) (fun _ h_ => h_.1)))) k_ hk_.2.1), (Kd.fresh' (Kd.N_lt (by (with_reducible repeat (first | apply Kd.N_alloc | apply Kd.N_drewN | apply Kd.N_drew)); exact (Kd.N_mono (Kd.N_far (p := ⟨gb511, 0, none⟩) (Kd.N_mono HO509.out (fun k_ hk => (⟨hk, hk.2⟩ : _ ∧ k_ ≠ gb511))) (fun _ hk => hk.2) (.slice Ao15 t507.length co15)) (fun _ h_ => h_.1)))) k_ hk_.2.1), (Kd.freshB (g := gb506) (o := .cells #[.slice Ao10 t500.length co10] 26 (0, 0)) (bk2_ BK506.out) k_ hk_.2.1), (Kd.freshB (g := gb511) (o := .cells #[.slice Ao15 t507.length co15] 26 (0, 0)) (by (with_reducible repeat (first | refine blk_drewN ?_ _ | refine blk_drew ?_ | refine blk_alloc ?_ _)); refine blk_put (cs := #[.slice none 0 0]) ?_ 0 _ rfl; exact bk_ BK511.out) k_ hk_.2.1)⟩)) (below_size qz1)); replace HO502 := aM (Kd.N_elder' (by (with_reducible repeat (first | apply Kd.N_alloc | apply Kd.N_drewN | apply Kd.N_drew)); exact (Kd.N_mono (Kd.N_far (p := ⟨gb511, 0, none⟩) (Kd.N_mono HO502.out (fun k_ hk => (⟨hk, hk.2⟩ : _ ∧ k_ ≠ gb511))) (fun _ hk => hk.2) (.slice Ao15 t507.length co15)) (fun _ h_ => h_.1))) (Kd.S_base ho0) hb); replace HO505 := aM (Kd.R_below (by (with_reducible repeat (first | apply Kd.R_alloc | apply Kd.R_drewN | apply Kd.R_drew)); exact (Kd.R_mono (Kd.R_far (p := ⟨gb511, 0, none⟩) (Kd.R_types HO505.out BK511.out (by decide)) (fun _ hk => hk.2) (.slice Ao15 t507.length co15)) (fun _ h_ => h_.1))) hb); replace HO509 := aM (Kd.N_elder' (by (with_reducible repeat (first | apply Kd.N_alloc | apply Kd.N_drewN | apply Kd.N_drew)); exact (Kd.N_mono (Kd.N_far (p := ⟨gb511, 0, none⟩) (Kd.N_mono HO509.out (fun k_ hk => (⟨hk, hk.2⟩ : _ ∧ k_ ≠ gb511))) (fun _ hk => hk.2) (.slice Ao15 t507.length co15)) (fun _ h_ => h_.1))) (Kd.S_base ho0) hb); replace BK506 := aM (blk_below (g := gb506) (o := .cells #[.slice Ao10 t500.length co10] 26 (0, 0)) (bk2_ BK506.out) hb); replace BK511 := aM (blk_below (g := gb511) (o := .cells #[.slice Ao15 t507.length co15] 26 (0, 0)) (by (with_reducible repeat (first | refine blk_drewN ?_ _ | refine blk_drew ?_ | refine blk_alloc ?_ _)); refine blk_put (cs := #[.slice none 0 0]) ?_ 0 _ rfl; exact bk_ BK511.out) hb); replace HB := bS_ hb; (try clear hb ho0)) | ((with_reducible refine gate_dst (N := 7) rfl ?_); (try (refine gate_guard (by rfl) ?_; dsimp only)); refine bx_ 7 #[.slice none 0 0] 26 ?_; intro gb516 hg w20 hbox hb; replace HO502 := aM (Kd.N_below (Kd.N_elderB qz20 gb516 (Nat.le_of_eq hg.symm)) hb); replace HO505 := aM (Kd.R_below (rr_ HO505.out) hb); replace HO509 := aM (Kd.N_below (Kd.N_elderB qz29 gb516 (Nat.le_of_eq hg.symm)) hb); replace HO514 := aM (Kd.N_below (Kd.N_elderB qz43 gb516 (Nat.le_of_eq hg.symm)) hb); have BK516 := aM (hbox); have GW516 := aM (bz_ w hg qz1); have GE516 := GW516; replace HB := bS_ hb; obtain ⟨NB506_516, NB516_506⟩ := nb_ hg (bk_ BK506.out); replace BK506 := bB_ BK506 hb; obtain ⟨NB511_516, NB516_511⟩ := nb_ hg (bk_ BK511.out); replace BK511 := bB_ BK511 hb; clear hb hbox hg; obtain ⟨Ao21, co21, eo21⟩ := Kd.N_slice HO514.out; subst eo21; have hnb22 := NB516_506.out; have hnc22 := NB506_516.out; have hnb23 := NB516_511.out; have hnc23 := NB511_516.out; obtain ⟨hcz24_0, hfz24_0⟩ := bf_ BK516.out) | (go_at_call 42; (with_reducible refine (impl_PodsOf.calls k _ _ t503 t517 _ ?side1 ?side2 A7.out).mono ?_); (case side1 => refine (Kd.R_reads' (e := 50) (base := w.heap.size) (ok := fun k_ => True) (n := t503.length) (c := co12) ?_).2.2; exact (by (with_reducible repeat (first | apply Kd.R_alloc | apply Kd.R_drewN | apply Kd.R_drew)); exact (Kd.R_mono (Kd.R_far (p := ⟨gb516, 0, none⟩) (Kd.R_types HO505.out BK516.out (by decide)) (fun _ hk => hk.2) (.slice Ao21 t512.length co21)) (fun _ h_ => h_.1)))); (case side2 => exact (Kd.R_reads' HO505.out).2.1); rintro e w25 ⟨v518, rfl, ho0, hb⟩; replace HO502 := aM (Kd.N_elder' (by (with_reducible repeat (first | apply Kd.N_alloc | apply Kd.N_drewN | apply Kd.N_drew)); exact (Kd.N_mono (Kd.N_far (p := ⟨gb516, 0, none⟩) (Kd.N_mono HO502.out (fun k_ hk => (⟨hk, hk.2⟩ : _ ∧ k_ ≠ gb516))) (fun _ hk => hk.2) (.slice Ao21 t512.length co21)) (fun _ h_ => h_.1))) (Kd.R_base ho0) hb); replace HO505 := aM (Kd.R_below (by (with_reducible repeat (first | apply Kd.R_alloc | apply Kd.R_drewN | apply Kd.R_drew)); exact (Kd.R_mono (Kd.R_far (p := ⟨gb516, 0, none⟩) (Kd.R_types HO505.out BK516.out (by decide)) (fun _ hk => hk.2) (.slice Ao21 t512.length co21)) (fun _ h_ => h_.1))) hb); replace HO509 := aM (Kd.N_elder' (by (with_reducible repeat (first | apply Kd.N_alloc | apply Kd.N_drewN | apply Kd.N_drew)); exact (Kd.N_mono (Kd.N_far (p := ⟨gb516, 0, none⟩) (Kd.N_mono HO509.out (fun k_ hk => (⟨hk, hk.2⟩ : _ ∧ k_ ≠ gb516))) (fun _ hk => hk.2) (.slice Ao21 t512.length co21)) (fun _ h_ => h_.1))) (Kd.R_base ho0) hb); replace HO514 := aM (Kd.N_elder' (by (with_reducible repeat (first | apply Kd.N_alloc | apply Kd.N_drewN | apply Kd.N_drew)); exact (Kd.N_mono (Kd.N_far (p := ⟨gb516, 0, none⟩) (Kd.N_mono HO514.out (fun k_ hk => (⟨hk, hk.2⟩ : _ ∧ k_ ≠ gb516))) (fun _ hk => hk.2) (.slice Ao21 t512.length co21)) (fun _ h_ => h_.1))) (Kd.R_base ho0) hb); have HO519 := aM (Kd.R_lower ho0 (below_size qz1)); replace BK506 := aM (blk_below (g := gb506) (o := .cells #[.slice Ao10 t500.length co10] 26 (0, 0)) (bk2_ BK506.out) hb); replace BK511 := aM (blk_below (g := gb511) (o := .cells #[.slice Ao15 t507.length co15] 26 (0, 0)) (bk2_ BK511.out) hb); replace BK516 := aM (blk_below (g := gb516) (o := .cells #[.slice Ao21 t512.length co21] 26 (0, 0)) (by (with_reducible repeat (first | refine blk_drewN ?_ _ | refine blk_drew ?_ | refine blk_alloc ?_ _)); refine blk_put (cs := #[.slice none 0 0]) ?_ 0 _ rfl; exact bk_ BK516.out) hb); replace HB := bS_ hb; (try clear hb ho0))))
 go_loopg [10] k (fun kq v10 w' => ∃ (x10_1 : Int), v10 = .int .i64 x10_1 ∧ Aside0 (laws_FnEach.l0 kq t503 t510 t515 t517 x10_1 t500 t507 = some r) ∧ Aside0 (kq ≤ k) ∧ Aside0 (Kd.R k50 50 w' w.heap.size (fun _ => True) (.slice Ao12 t503.length co12) t503) ∧ Aside0 (Kd.R (Kd.int .i64) 3 w' w.heap.size (fun _ => True) v518 t517) ∧ Aside0 (Kd.N k79 79 w' w.heap.size (fun k_ => some k_ ≠ ((.slice Ao12 t503.length co12) : Value).ownBlock ∧ some k_ ≠ (v518 : Value).ownBlock ∧ some k_ ≠ ((.slice Ao15 t507.length co15) : Value).ownBlock ∧ some k_ ≠ ((.slice Ao21 t512.length co21) : Value).ownBlock ∧ k_ ≠ gb506 ∧ k_ ≠ gb511 ∧ k_ ≠ gb516) (.slice Ao10 t500.length co10) t500) ∧ Aside0 (Kd.N k79 79 w' w.heap.size (fun k_ => some k_ ≠ ((.slice Ao12 t503.length co12) : Value).ownBlock ∧ some k_ ≠ (v518 : Value).ownBlock ∧ some k_ ≠ ((.slice Ao10 t500.length co10) : Value).ownBlock ∧ some k_ ≠ ((.slice Ao21 t512.length co21) : Value).ownBlock ∧ k_ ≠ gb506 ∧ k_ ≠ gb511 ∧ k_ ≠ gb516) (.slice Ao15 t507.length co15) t507) ∧ Aside0 (Kd.N k79 79 w' w.heap.size (fun k_ => some k_ ≠ ((.slice Ao12 t503.length co12) : Value).ownBlock ∧ some k_ ≠ (v518 : Value).ownBlock ∧ some k_ ≠ ((.slice Ao10 t500.length co10) : Value).ownBlock ∧ some k_ ≠ ((.slice Ao15 t507.length co15) : Value).ownBlock ∧ k_ ≠ gb506 ∧ k_ ≠ gb511 ∧ k_ ≠ gb516) (.slice Ao21 t512.length co21) t512) ∧ Aside0 (w'.heap[gb506]? = some (.cells #[(.slice Ao10 t500.length co10)] 26 (0, 0))) ∧ Aside0 (w'.heap[gb511]? = some (.cells #[(.slice Ao15 t507.length co15)] 26 (0, 0))) ∧ Aside0 (w'.heap[gb516]? = some (.cells #[(.slice Ao21 t512.length co21)] 26 (0, 0))) ∧ Aside0 (Below w.heap.size w w'))
 case atStart => exact ⟨(0), qz5, H', ⟨Nat.le_refl _⟩, ⟨rr_ HO505.out⟩, ⟨rr_ HO519.out⟩, ⟨by (with_reducible repeat (first | apply Kd.N_alloc | apply Kd.N_drewN | apply Kd.N_drew)); exact Kd.N_mono HO502.out (fun _ hk => ⟨hk.1.1.1.1.1.1, ⟨hk.2, ⟨hk.1.1.1.1.2, ⟨hk.1.1.2, ⟨hk.1.1.1.1.1.2, ⟨hk.1.1.1.2, hk.1.2⟩⟩⟩⟩⟩⟩)⟩, ⟨by (with_reducible repeat (first | apply Kd.N_alloc | apply Kd.N_drewN | apply Kd.N_drew)); exact Kd.N_mono HO509.out (fun _ hk => ⟨hk.1.1.1.1.2.1, ⟨hk.2, ⟨hk.1.1.1.1.1, ⟨hk.1.1.2, ⟨hk.1.1.1.1.2.2, ⟨hk.1.1.1.2, hk.1.2⟩⟩⟩⟩⟩⟩)⟩, ⟨by (with_reducible repeat (first | apply Kd.N_alloc | apply Kd.N_drewN | apply Kd.N_drew)); exact Kd.N_mono HO514.out (fun _ hk => ⟨hk.1.1.2.1, ⟨hk.2, ⟨hk.1.1.1, ⟨hk.1.1.2.2.1, ⟨hk.1.1.2.2.2.1, ⟨hk.1.1.2.2.2.2, hk.1.2⟩⟩⟩⟩⟩⟩)⟩, ⟨bk_ BK506.out⟩, ⟨bk_ BK511.out⟩, ⟨bk_ BK516.out⟩, ⟨qz1⟩⟩
 case round =>
  clear H'
  try clear c1
  try clear c2
  try clear p2
  try clear c3
  try clear c10
  try clear c16
  try clear c22
  try clear c23
  try clear hcz11_0 hfz11_0
  try clear hcz17_0 hfz17_0
  try clear hcz18_0 hfz18_0
  try clear hcz24_0 hfz24_0
  obtain ⟨x10_1, rfl, HA, HK1, HO_4, HO_9, HO_507000, HO_512000, HO_517000, BK506, BK511, BK516, HB⟩ := hrel
  cases gk with
  | zero => exact absurd HA.out (by simp [laws_FnEach.l0])
  | succ k1 =>
   have H := HA.out
   clear HA
   simp only [laws_FnEach.l0] at H
   by_cases c26 : x10_1 < (t503.length : Int)
   {
   rw [if_pos c26] at H
   have c26b0 := decide_eq_true c26
   clear c26
   by_cases c27 : 0 ≤ x10_1
   {
   rw [if_pos c27] at H
   have c27b0 := decide_eq_true c27
   clear c27
   replace H := Option.bind_eq_some_iff.mp H
   obtain ⟨t521, A280, H⟩ := H
   replace H : (if t521 = true then (laws_FnEach.l0 k1 t503 t510 t515 t517 (wrap64 (x10_1 + 1)) t500 t507) else (some false)) = some r := H
   have A28 := aM A280
   clear A280
   by_cases c29 : t521 = true
   {
   subst c29
   rw [if_pos rfl] at H
   have H' := aM H
   clear H
   have p520 : 0 ≤ (x10_1 : Int) := dt_
   have q520 : x10_1 < (t503.length : Int) := dt_
   obtain ⟨ad520, e520, hx520_0, hx520_1, hx520_2⟩ := at_T50 (Kd.R_reads' HO_4.out).2.2 x10_1 p520 q520
   cases e520
   replace p520 := eq_true p520
   replace q520 := eq_true q520
   obtain ⟨Ao30, co30, eo30⟩ := Kd.R_slice HO_9.out
   subst eo30
   go_wp2_with (first | (go_at_call 46; (with_reducible refine (laws_among.calls k1 _ _ t517 ((rd_T50 t503 x10_1).f0) true _ ?side1 ?side2 A28.out).mono ?_); (case side1 => exact qz41); (case side2 => exact (Kd.R_reads' HO_9.out).2.1); rintro e w' ⟨rfl, ⟨nd, rfl⟩⟩; (try first | exact ⟨rfl, _, World.drewN_drewN _ _ _⟩ | exact ⟨rfl, _, Eq.trans (World.drewN_drewN _ _ _) (congrArg (World.drewN _) (Nat.add_assoc _ _ _))⟩)))
   repeat (go_quiet (first | (go_at_call 46; (with_reducible refine (laws_among.calls k1 _ _ t517 ((rd_T50 t503 x10_1).f0) true _ ?side1 ?side2 A28.out).mono ?_); (case side1 => exact qz41); (case side2 => exact (Kd.R_reads' HO_9.out).2.1); rintro e w' ⟨rfl, ⟨nd, rfl⟩⟩; (try first | exact ⟨rfl, _, World.drewN_drewN _ _ _⟩ | exact ⟨rfl, _, Eq.trans (World.drewN_drewN _ _ _) (congrArg (World.drewN _) (Nat.add_assoc _ _ _))⟩))); try go_wp2_with (first | (go_at_call 46; (with_reducible refine (laws_among.calls k1 _ _ t517 ((rd_T50 t503 x10_1).f0) true _ ?side1 ?side2 A28.out).mono ?_); (case side1 => exact qz41); (case side2 => exact (Kd.R_reads' HO_9.out).2.1); rintro e w' ⟨rfl, ⟨nd, rfl⟩⟩; (try first | exact ⟨rfl, _, World.drewN_drewN _ _ _⟩ | exact ⟨rfl, _, Eq.trans (World.drewN_drewN _ _ _) (congrArg (World.drewN _) (Nat.add_assoc _ _ _))⟩))))
   go_roundg k1
   case measure => have := HK1.out; omega
   case rel => exact ⟨(wrap64 (x10_1 + 1)), qz5, H', ⟨by have := HK1.out; omega⟩, ⟨rm_ HO_4.out⟩, ⟨rm_ HO_9.out⟩, ⟨by (with_reducible repeat (first | apply Kd.N_alloc | apply Kd.N_drewN | apply Kd.N_drew)); (first | exact HO_507000.out | exact Kd.R_mono HO_507000.out (fun _ h_ => h_.1) | exact Kd.R_mono HO_507000.out (fun _ h_ => h_.2))⟩, ⟨by (with_reducible repeat (first | apply Kd.N_alloc | apply Kd.N_drewN | apply Kd.N_drew)); (first | exact HO_512000.out | exact Kd.R_mono HO_512000.out (fun _ h_ => h_.1) | exact Kd.R_mono HO_512000.out (fun _ h_ => h_.2))⟩, ⟨by (with_reducible repeat (first | apply Kd.N_alloc | apply Kd.N_drewN | apply Kd.N_drew)); (first | exact HO_517000.out | exact Kd.R_mono HO_517000.out (fun _ h_ => h_.1) | exact Kd.R_mono HO_517000.out (fun _ h_ => h_.2))⟩, ⟨bk_ BK506.out⟩, ⟨bk_ BK511.out⟩, ⟨bk_ BK516.out⟩, ⟨qz1⟩⟩
   }
   {
   replace c29 := Bool.eq_false_iff.mpr c29
   subst c29
   rw [if_neg (show ¬ (false = true) by decide)] at H
   obtain rfl := Option.some.inj H
   exact absurd HTR_.out (by decide)
   }
   }
   {
   exact an_ c27 H
   }
   }
   {
   rw [if_neg c26] at H
   have c26b0 := decide_eq_false c26
   clear c26
   have H' := aM H
   clear H
   go_wp2
   repeat (go_quiet (fail); try go_wp2)
   go_loopg [11] k1 (fun kq v11 w' => ∃ (x11_2 : Int), v11 = .int .i64 x11_2 ∧ Aside0 (laws_FnEach.l1 kq t503 t510 t515 t517 x11_2 t500 t507 = some r) ∧ Aside0 (kq ≤ k1) ∧ Aside0 (Kd.R k50 50 w' w.heap.size (fun _ => True) (.slice Ao12 t503.length co12) t503) ∧ Aside0 (Kd.R (Kd.int .i64) 3 w' w.heap.size (fun _ => True) v518 t517) ∧ Aside0 (Kd.N k79 79 w' w.heap.size (fun k_ => some k_ ≠ ((.slice Ao12 t503.length co12) : Value).ownBlock ∧ some k_ ≠ (v518 : Value).ownBlock ∧ some k_ ≠ ((.slice Ao15 t507.length co15) : Value).ownBlock ∧ some k_ ≠ ((.slice Ao21 t512.length co21) : Value).ownBlock ∧ k_ ≠ gb506 ∧ k_ ≠ gb511 ∧ k_ ≠ gb516) (.slice Ao10 t500.length co10) t500) ∧ Aside0 (Kd.N k79 79 w' w.heap.size (fun k_ => some k_ ≠ ((.slice Ao12 t503.length co12) : Value).ownBlock ∧ some k_ ≠ (v518 : Value).ownBlock ∧ some k_ ≠ ((.slice Ao10 t500.length co10) : Value).ownBlock ∧ some k_ ≠ ((.slice Ao21 t512.length co21) : Value).ownBlock ∧ k_ ≠ gb506 ∧ k_ ≠ gb511 ∧ k_ ≠ gb516) (.slice Ao15 t507.length co15) t507) ∧ Aside0 (Kd.N k79 79 w' w.heap.size (fun k_ => some k_ ≠ ((.slice Ao12 t503.length co12) : Value).ownBlock ∧ some k_ ≠ (v518 : Value).ownBlock ∧ some k_ ≠ ((.slice Ao10 t500.length co10) : Value).ownBlock ∧ some k_ ≠ ((.slice Ao15 t507.length co15) : Value).ownBlock ∧ k_ ≠ gb506 ∧ k_ ≠ gb511 ∧ k_ ≠ gb516) (.slice Ao21 t512.length co21) t512) ∧ Aside0 (w'.heap[gb506]? = some (.cells #[(.slice Ao10 t500.length co10)] 26 (0, 0))) ∧ Aside0 (w'.heap[gb511]? = some (.cells #[(.slice Ao15 t507.length co15)] 26 (0, 0))) ∧ Aside0 (w'.heap[gb516]? = some (.cells #[(.slice Ao21 t512.length co21)] 26 (0, 0))) ∧ Aside0 (Below w.heap.size w w'))
   case atStart => exact ⟨(0), qz5, H', ⟨Nat.le_refl _⟩, ⟨rr_ HO_4.out⟩, ⟨rr_ HO_9.out⟩, ⟨by (with_reducible repeat (first | apply Kd.N_alloc | apply Kd.N_drewN | apply Kd.N_drew)); exact HO_507000.out⟩, ⟨by (with_reducible repeat (first | apply Kd.N_alloc | apply Kd.N_drewN | apply Kd.N_drew)); exact HO_512000.out⟩, ⟨by (with_reducible repeat (first | apply Kd.N_alloc | apply Kd.N_drewN | apply Kd.N_drew)); exact HO_517000.out⟩, ⟨bk_ BK506.out⟩, ⟨bk_ BK511.out⟩, ⟨bk_ BK516.out⟩, ⟨qz1⟩⟩
   case round =>
    clear H'
    try clear c1
    try clear c2
    try clear p2
    try clear c3
    try clear p5
    try clear q5
    try clear hx5
    try clear p6
    try clear c10
    try clear c16
    try clear c22
    try clear c23
    try clear c26
    try clear c26b0
    try clear c27
    try clear c27b0
    try clear c29
    try clear hcz11_0 hfz11_0
    try clear hcz17_0 hfz17_0
    try clear hcz18_0 hfz18_0
    try clear hcz24_0 hfz24_0
    try clear hx520_0
    try clear hx520_1
    try clear hx520_2
    try clear p520
    try clear q520
    obtain ⟨x11_2, rfl, HA, HK2, HO_4, HO_9, HO_507000, HO_512000, HO_517000, BK506, BK511, BK516, HB⟩ := hrel
    cases gk with
    | zero => exact absurd HA.out (by simp [laws_FnEach.l1])
    | succ k2 =>
     have H := HA.out
     clear HA
     simp only [laws_FnEach.l1] at H
     by_cases c31 : x11_2 < (t517.length : Int)
     {
     rw [if_pos c31] at H
     have c31b0 := decide_eq_true c31
     clear c31
     have H' := aM H
     clear H
     obtain ⟨Ao32, co32, eo32⟩ := Kd.R_slice HO_9.out
     subst eo32
     go_wp2
     repeat (go_quiet (fail); try go_wp2)
     go_loopg [12] k2 (fun kq v12 w' => ∃ (x12_3 : Int), v12 = .int .i64 x12_3 ∧ Aside0 (laws_FnEach.l2 kq t503 t510 t515 t517 x11_2 x12_3 t500 t507 = some r) ∧ Aside0 (kq ≤ k2) ∧ Aside0 (Kd.R k50 50 w' w.heap.size (fun _ => True) (.slice Ao12 t503.length co12) t503) ∧ Aside0 (Kd.R (Kd.int .i64) 3 w' w.heap.size (fun _ => True) (.slice Ao32 t517.length co32) t517) ∧ Aside0 (Kd.N k79 79 w' w.heap.size (fun k_ => some k_ ≠ ((.slice Ao12 t503.length co12) : Value).ownBlock ∧ some k_ ≠ ((.slice Ao32 t517.length co32) : Value).ownBlock ∧ some k_ ≠ ((.slice Ao15 t507.length co15) : Value).ownBlock ∧ some k_ ≠ ((.slice Ao21 t512.length co21) : Value).ownBlock ∧ k_ ≠ gb506 ∧ k_ ≠ gb511 ∧ k_ ≠ gb516) (.slice Ao10 t500.length co10) t500) ∧ Aside0 (Kd.N k79 79 w' w.heap.size (fun k_ => some k_ ≠ ((.slice Ao12 t503.length co12) : Value).ownBlock ∧ some k_ ≠ ((.slice Ao32 t517.length co32) : Value).ownBlock ∧ some k_ ≠ ((.slice Ao10 t500.length co10) : Value).ownBlock ∧ some k_ ≠ ((.slice Ao21 t512.length co21) : Value).ownBlock ∧ k_ ≠ gb506 ∧ k_ ≠ gb511 ∧ k_ ≠ gb516) (.slice Ao15 t507.length co15) t507) ∧ Aside0 (Kd.N k79 79 w' w.heap.size (fun k_ => some k_ ≠ ((.slice Ao12 t503.length co12) : Value).ownBlock ∧ some k_ ≠ ((.slice Ao32 t517.length co32) : Value).ownBlock ∧ some k_ ≠ ((.slice Ao10 t500.length co10) : Value).ownBlock ∧ some k_ ≠ ((.slice Ao15 t507.length co15) : Value).ownBlock ∧ k_ ≠ gb506 ∧ k_ ≠ gb511 ∧ k_ ≠ gb516) (.slice Ao21 t512.length co21) t512) ∧ Aside0 (w'.heap[gb506]? = some (.cells #[(.slice Ao10 t500.length co10)] 26 (0, 0))) ∧ Aside0 (w'.heap[gb511]? = some (.cells #[(.slice Ao15 t507.length co15)] 26 (0, 0))) ∧ Aside0 (w'.heap[gb516]? = some (.cells #[(.slice Ao21 t512.length co21)] 26 (0, 0))) ∧ Aside0 (Below w.heap.size w w'))
     case atStart => exact ⟨(0), qz5, H', ⟨Nat.le_refl _⟩, ⟨rr_ HO_4.out⟩, ⟨rr_ HO_9.out⟩, ⟨by (with_reducible repeat (first | apply Kd.N_alloc | apply Kd.N_drewN | apply Kd.N_drew)); exact HO_507000.out⟩, ⟨by (with_reducible repeat (first | apply Kd.N_alloc | apply Kd.N_drewN | apply Kd.N_drew)); exact HO_512000.out⟩, ⟨by (with_reducible repeat (first | apply Kd.N_alloc | apply Kd.N_drewN | apply Kd.N_drew)); exact HO_517000.out⟩, ⟨bk_ BK506.out⟩, ⟨bk_ BK511.out⟩, ⟨bk_ BK516.out⟩, ⟨qz1⟩⟩
     case round =>
      clear H'
      try clear c1
      try clear c2
      try clear p2
      try clear c3
      try clear p5
      try clear q5
      try clear hx5
      try clear p6
      try clear c10
      try clear c16
      try clear c22
      try clear c23
      try clear c26
      try clear c26b0
      try clear c27
      try clear c27b0
      try clear c29
      try clear c31
      try clear c31b0
      try clear hcz11_0 hfz11_0
      try clear hcz17_0 hfz17_0
      try clear hcz18_0 hfz18_0
      try clear hcz24_0 hfz24_0
      try clear hx520_0
      try clear hx520_1
      try clear hx520_2
      try clear p520
      try clear q520
      obtain ⟨x12_3, rfl, HA, HK3, HO_4, HO_9, HO_507000, HO_512000, HO_517000, BK506, BK511, BK516, HB⟩ := hrel
      cases gk with
      | zero => exact absurd HA.out (by simp [laws_FnEach.l2])
      | succ k3 =>
       have H := HA.out
       clear HA
       simp only [laws_FnEach.l2] at H
       by_cases c33 : x12_3 < x11_2
       {
       rw [if_pos c33] at H
       have c33b0 := decide_eq_true c33
       clear c33
       by_cases c34 : 0 ≤ x12_3
       {
       rw [if_pos c34] at H
       have c34b0 := decide_eq_true c34
       clear c34
       by_cases c35 : x12_3 < (t517.length : Int)
       {
       rw [if_pos c35] at H
       have c35b0 := decide_eq_true c35
       clear c35
       by_cases c36 : 0 ≤ x11_2
       {
       rw [if_pos c36] at H
       have c36b0 := decide_eq_true c36
       clear c36
       by_cases c37 : x11_2 < (t517.length : Int)
       {
       rw [if_pos c37] at H
       have c37b0 := decide_eq_true c37
       clear c37
       by_cases c38 : (rd t517 x12_3) = (rd t517 x11_2)
       {
       rw [if_pos c38] at H
       have c38b0 := beq_iff_eq.mpr c38
       have c38b1 := bne_eq_false_iff_eq.mpr c38
       clear c38
       obtain rfl := Option.some.inj H
       exact absurd HTR_.out (by decide)
       }
       {
       rw [if_neg c38] at H
       have c38b0 := beq_eq_false_iff_ne.mpr c38
       have c38b1 := bne_iff_ne.mpr c38
       have H' := aM H
       clear H
       have p523 : 0 ≤ (x12_3 : Int) := dt_
       have q523 : x12_3 < (t517.length : Int) := dt_
       obtain ⟨ad523, e523, hx523_0⟩ := Kd.at_int (Kd.R_reads' HO_9.out).2.2 x12_3 p523 q523
       cases e523
       replace p523 := eq_true p523
       replace q523 := eq_true q523
       have p524 : 0 ≤ (x11_2 : Int) := dt_
       have q524 : x11_2 < (t517.length : Int) := dt_
       obtain ⟨ad524, e524, hx524_0⟩ := Kd.at_int (Kd.R_reads' HO_9.out).2.2 x11_2 p524 q524
       obtain rfl : ad523 = ad524 := (by injection e524)
       replace p524 := eq_true p524
       replace q524 := eq_true q524
       go_wp2
       repeat (go_quiet (fail); try go_wp2)
       go_roundg k3
       case measure => have := HK1.out; have := HK2.out; have := HK3.out; omega
       case rel => exact ⟨(wrap64 (x12_3 + 1)), qz5, H', ⟨by have := HK1.out; have := HK2.out; have := HK3.out; omega⟩, ⟨rm_ HO_4.out⟩, ⟨rm_ HO_9.out⟩, ⟨by (with_reducible repeat (first | apply Kd.N_alloc | apply Kd.N_drewN | apply Kd.N_drew)); (first | exact HO_507000.out | exact Kd.R_mono HO_507000.out (fun _ h_ => h_.1) | exact Kd.R_mono HO_507000.out (fun _ h_ => h_.2))⟩, ⟨by (with_reducible repeat (first | apply Kd.N_alloc | apply Kd.N_drewN | apply Kd.N_drew)); (first | exact HO_512000.out | exact Kd.R_mono HO_512000.out (fun _ h_ => h_.1) | exact Kd.R_mono HO_512000.out (fun _ h_ => h_.2))⟩, ⟨by (with_reducible repeat (first | apply Kd.N_alloc | apply Kd.N_drewN | apply Kd.N_drew)); (first | exact HO_517000.out | exact Kd.R_mono HO_517000.out (fun _ h_ => h_.1) | exact Kd.R_mono HO_517000.out (fun _ h_ => h_.2))⟩, ⟨bk_ BK506.out⟩, ⟨bk_ BK511.out⟩, ⟨bk_ BK516.out⟩, ⟨qz1⟩⟩
       }
       }
       {
       exact an_ c37 H
       }
       }
       {
       exact an_ c36 H
       }
       }
       {
       exact an_ c35 H
       }
       }
       {
       exact an_ c34 H
       }
       }
       {
       rw [if_neg c33] at H
       have c33b0 := decide_eq_false c33
       clear c33
       have H' := aM H
       clear H
       go_wp2
       repeat (go_quiet (fail); try go_wp2)
       go_roundg k3
       case measure => have := HK1.out; have := HK2.out; have := HK3.out; omega
       case rel => exact ⟨(wrap64 (x11_2 + 1)), qz5, H', ⟨by have := HK1.out; have := HK2.out; have := HK3.out; omega⟩, ⟨rm_ HO_4.out⟩, ⟨rm_ HO_9.out⟩, ⟨by (with_reducible repeat (first | apply Kd.N_alloc | apply Kd.N_drewN | apply Kd.N_drew)); (first | exact HO_507000.out | exact Kd.R_mono HO_507000.out (fun _ h_ => h_.1) | exact Kd.R_mono HO_507000.out (fun _ h_ => h_.2))⟩, ⟨by (with_reducible repeat (first | apply Kd.N_alloc | apply Kd.N_drewN | apply Kd.N_drew)); (first | exact HO_512000.out | exact Kd.R_mono HO_512000.out (fun _ h_ => h_.1) | exact Kd.R_mono HO_512000.out (fun _ h_ => h_.2))⟩, ⟨by (with_reducible repeat (first | apply Kd.N_alloc | apply Kd.N_drewN | apply Kd.N_drew)); (first | exact HO_517000.out | exact Kd.R_mono HO_517000.out (fun _ h_ => h_.1) | exact Kd.R_mono HO_517000.out (fun _ h_ => h_.2))⟩, ⟨bk_ BK506.out⟩, ⟨bk_ BK511.out⟩, ⟨bk_ BK516.out⟩, ⟨qz1⟩⟩
       }
     }
     {
     rw [if_neg c31] at H
     have c31b0 := decide_eq_false c31
     clear c31
     by_cases c39 : (t510 == t515) = true
     {
     rw [if_pos c39] at H
     have c39b0 : (t510 == t515) = true := c39
     (try (have c39b1 : decide (t510 = t515) = true := by simpa using c39))
     (try (have c39b2 : (t510 == t515) = true := by simpa using c39))
     clear c39
     by_cases c40 : t510 = true
     {
     subst c40
     rw [if_pos rfl] at H
     by_cases c41 : (t503.length : Int) > 0
     {
     rw [if_pos c41] at H
     have c41b0 := decide_eq_true c41
     have c41b1 : decide (0 < t503.length) = true := decide_eq_true (by omega)
     clear c41
     obtain rfl := Option.some.inj H
     simp only [Option.some.injEq, Prod.mk.injEq] at H
     obtain ⟨rfl⟩ := H
     obtain ⟨Ao42, co42, eo42⟩ := Kd.R_slice HO_9.out
     subst eo42
     go_wp2
     repeat (go_quiet (fail); try go_wp2)
     go_ret
     exact ⟨qzw, qz1⟩
     }
     {
     rw [if_neg c41] at H
     have c41b0 := decide_eq_false c41
     have c41b1 : decide (0 < t503.length) = false := decide_eq_false (by omega)
     clear c41
     obtain rfl := Option.some.inj H
     simp only [Option.some.injEq, Prod.mk.injEq] at H
     obtain ⟨rfl⟩ := H
     obtain ⟨Ao43, co43, eo43⟩ := Kd.R_slice HO_9.out
     subst eo43
     go_wp2
     repeat (go_quiet (fail); try go_wp2)
     go_ret
     exact ⟨qzw, qz1⟩
     }
     }
     {
     replace c40 := Bool.eq_false_iff.mpr c40
     subst c40
     rw [if_neg (show ¬ (false = true) by decide)] at H
     replace H := Option.bind_eq_some_iff.mp H
     obtain ⟨t522, A440, H⟩ := H
     replace H : (if t522 = true then (if (t503.length : Int) > 0 then (some true) else (some ((t517.length : Int) == 0))) else (some false)) = some r := H
     have A44 := aM A440
     clear A440
     by_cases c45 : t522 = true
     {
     subst c45
     rw [if_pos rfl] at H
     by_cases c46 : (t503.length : Int) > 0
     {
     rw [if_pos c46] at H
     have c46b0 := decide_eq_true c46
     have c46b1 : decide (0 < t503.length) = true := decide_eq_true (by omega)
     clear c46
     obtain rfl := Option.some.inj H
     simp only [Option.some.injEq, Prod.mk.injEq] at H
     obtain ⟨rfl⟩ := H
     obtain ⟨Ao47, co47, eo47⟩ := Kd.R_slice HO_9.out
     subst eo47
     have hnb48 := NB511_506.out
     have hnc48 := NB506_511.out
     have hnb49 := NB511_516.out
     have hnc49 := NB516_511.out
     obtain ⟨hcz50_0, hfz50_0⟩ := bf_ BK511.out
     have hnb51 := NB506_516.out
     have hnc51 := NB516_506.out
     obtain ⟨hcz52_0, hfz52_0⟩ := bf_ BK506.out
     go_wp2_with (first | (go_at_call 19; (with_reducible refine (laws_sameStock.calls k2 _ _ t507 _ _ t500 true _ ?side1 ?side2 ?side3 ?side4 A44.out (by first | rfl | exact HTR_.out)).mono ?_); (case side1 => exact qz21); (case side2 => exact (Kd.N_reads' HO_512000.out).2.1); (case side3 => exact qz22); (case side4 => exact (Kd.N_reads' HO_507000.out).2.1); rintro e w53 ⟨rfl, hb⟩; replace HO_4 := aM (Kd.R_below (rr_ HO_4.out) hb); replace HO_9 := aM (Kd.R_below (rr_ HO_9.out) hb); replace HO_507000 := aM (Kd.N_below qz26 hb); replace HO_512000 := aM (Kd.N_below qz27 hb); replace HO_517000 := aM (Kd.N_below qz28 hb); replace BK506 := bB_ BK506 hb; replace BK511 := bB_ BK511 hb; replace BK516 := bB_ BK516 hb; replace HB := bS_ hb; (try clear hb)))
     repeat (go_quiet (first | (go_at_call 19; (with_reducible refine (laws_sameStock.calls k2 _ _ t507 _ _ t500 true _ ?side1 ?side2 ?side3 ?side4 A44.out (by first | rfl | exact HTR_.out)).mono ?_); (case side1 => exact qz21); (case side2 => exact (Kd.N_reads' HO_512000.out).2.1); (case side3 => exact qz22); (case side4 => exact (Kd.N_reads' HO_507000.out).2.1); rintro e w53 ⟨rfl, hb⟩; replace HO_4 := aM (Kd.R_below (rr_ HO_4.out) hb); replace HO_9 := aM (Kd.R_below (rr_ HO_9.out) hb); replace HO_507000 := aM (Kd.N_below qz26 hb); replace HO_512000 := aM (Kd.N_below qz27 hb); replace HO_517000 := aM (Kd.N_below qz28 hb); replace BK506 := bB_ BK506 hb; replace BK511 := bB_ BK511 hb; replace BK516 := bB_ BK516 hb; replace HB := bS_ hb; (try clear hb))); try go_wp2_with (first | (go_at_call 19; (with_reducible refine (laws_sameStock.calls k2 _ _ t507 _ _ t500 true _ ?side1 ?side2 ?side3 ?side4 A44.out (by first | rfl | exact HTR_.out)).mono ?_); (case side1 => exact qz21); (case side2 => exact (Kd.N_reads' HO_512000.out).2.1); (case side3 => exact qz22); (case side4 => exact (Kd.N_reads' HO_507000.out).2.1); rintro e w53 ⟨rfl, hb⟩; replace HO_4 := aM (Kd.R_below (rr_ HO_4.out) hb); replace HO_9 := aM (Kd.R_below (rr_ HO_9.out) hb); replace HO_507000 := aM (Kd.N_below qz26 hb); replace HO_512000 := aM (Kd.N_below qz27 hb); replace HO_517000 := aM (Kd.N_below qz28 hb); replace BK506 := bB_ BK506 hb; replace BK511 := bB_ BK511 hb; replace BK516 := bB_ BK516 hb; replace HB := bS_ hb; (try clear hb))))
     go_ret
     exact ⟨qzw, qz1⟩
     }
     {
     rw [if_neg c46] at H
     have c46b0 := decide_eq_false c46
     have c46b1 : decide (0 < t503.length) = false := decide_eq_false (by omega)
     clear c46
     obtain rfl := Option.some.inj H
     simp only [Option.some.injEq, Prod.mk.injEq] at H
     obtain ⟨rfl⟩ := H
     obtain ⟨Ao54, co54, eo54⟩ := Kd.R_slice HO_9.out
     subst eo54
     have hnb55 := NB511_506.out
     have hnc55 := NB506_511.out
     have hnb56 := NB511_516.out
     have hnc56 := NB516_511.out
     obtain ⟨hcz57_0, hfz57_0⟩ := bf_ BK511.out
     have hnb58 := NB506_516.out
     have hnc58 := NB516_506.out
     obtain ⟨hcz59_0, hfz59_0⟩ := bf_ BK506.out
     go_wp2_with (first | (go_at_call 19; (with_reducible refine (laws_sameStock.calls k2 _ _ t507 _ _ t500 true _ ?side1 ?side2 ?side3 ?side4 A44.out (by first | rfl | exact HTR_.out)).mono ?_); (case side1 => exact qz21); (case side2 => exact (Kd.N_reads' HO_512000.out).2.1); (case side3 => exact qz22); (case side4 => exact (Kd.N_reads' HO_507000.out).2.1); rintro e w60 ⟨rfl, hb⟩; replace HO_4 := aM (Kd.R_below (rr_ HO_4.out) hb); replace HO_9 := aM (Kd.R_below (rr_ HO_9.out) hb); replace HO_507000 := aM (Kd.N_below qz26 hb); replace HO_512000 := aM (Kd.N_below qz27 hb); replace HO_517000 := aM (Kd.N_below qz28 hb); replace BK506 := bB_ BK506 hb; replace BK511 := bB_ BK511 hb; replace BK516 := bB_ BK516 hb; replace HB := bS_ hb; (try clear hb)))
     repeat (go_quiet (first | (go_at_call 19; (with_reducible refine (laws_sameStock.calls k2 _ _ t507 _ _ t500 true _ ?side1 ?side2 ?side3 ?side4 A44.out (by first | rfl | exact HTR_.out)).mono ?_); (case side1 => exact qz21); (case side2 => exact (Kd.N_reads' HO_512000.out).2.1); (case side3 => exact qz22); (case side4 => exact (Kd.N_reads' HO_507000.out).2.1); rintro e w60 ⟨rfl, hb⟩; replace HO_4 := aM (Kd.R_below (rr_ HO_4.out) hb); replace HO_9 := aM (Kd.R_below (rr_ HO_9.out) hb); replace HO_507000 := aM (Kd.N_below qz26 hb); replace HO_512000 := aM (Kd.N_below qz27 hb); replace HO_517000 := aM (Kd.N_below qz28 hb); replace BK506 := bB_ BK506 hb; replace BK511 := bB_ BK511 hb; replace BK516 := bB_ BK516 hb; replace HB := bS_ hb; (try clear hb))); try go_wp2_with (first | (go_at_call 19; (with_reducible refine (laws_sameStock.calls k2 _ _ t507 _ _ t500 true _ ?side1 ?side2 ?side3 ?side4 A44.out (by first | rfl | exact HTR_.out)).mono ?_); (case side1 => exact qz21); (case side2 => exact (Kd.N_reads' HO_512000.out).2.1); (case side3 => exact qz22); (case side4 => exact (Kd.N_reads' HO_507000.out).2.1); rintro e w60 ⟨rfl, hb⟩; replace HO_4 := aM (Kd.R_below (rr_ HO_4.out) hb); replace HO_9 := aM (Kd.R_below (rr_ HO_9.out) hb); replace HO_507000 := aM (Kd.N_below qz26 hb); replace HO_512000 := aM (Kd.N_below qz27 hb); replace HO_517000 := aM (Kd.N_below qz28 hb); replace BK506 := bB_ BK506 hb; replace BK511 := bB_ BK511 hb; replace BK516 := bB_ BK516 hb; replace HB := bS_ hb; (try clear hb))))
     go_ret
     exact ⟨qzw, qz1⟩
     }
     }
     {
     replace c45 := Bool.eq_false_iff.mpr c45
     subst c45
     rw [if_neg (show ¬ (false = true) by decide)] at H
     obtain rfl := Option.some.inj H
     exact absurd HTR_.out (by decide)
     }
     }
     }
     {
     rw [if_neg c39] at H
     have c39b0 : (t510 == t515) = false := by simpa using c39
     (try (have c39b1 : decide (t510 = t515) = false := by simpa using c39))
     (try (have c39b2 : (t510 == t515) = false := by simpa using c39))
     (try (have c39b3 : ¬ (t510 = t515) := by simpa using c39))
     clear c39
     obtain rfl := Option.some.inj H
     exact absurd HTR_.out (by decide)

     }
     }
   }
 }
/-- THE ONE PURE STATEMENT of laws_FnEach: yours. -/
def laws_FnEach.Pure : Prop := ∀ (l0 : List Int), l0.length ≤ maxLen → l0.length * 1 ≤ 140737488351232 → (∀ x ∈ l0, (Lit.int .u8 x).wf = true) → ∃ k, laws_FnEach.f k l0 = some true
theorem laws_FnEach.walk (P : laws_FnEach.Pure) (a0 : Option Addr) (len0 cap0 : Nat) (z0 : List Int) (w : World) (w0 : (a0 = none ∧ len0 = 0 ∧ cap0 = 0 ∧ z0 = []) ∨ ∃ x, a0 = some x ∧ len0 ≤ cap0 ∧ cap0 ≤ maxLen ∧ z0.length = cap0 ∧ (∀ i, i < z0.length → w.cell? (x.add i) = some (.int .u8 (z0.getD i 0))) ∧ ∀ n ∈ z0, (Lit.int .u8 n).wf = true) (y0 : len0 * 1 ≤ 140737488351232) :
  Calls Try.prog 10 #[.slice a0 len0 cap0] w fun e w' => e = .returned (.bool true) ∧ Below w.heap.size w w' := by
 obtain ⟨l0, rfl, hr0, hm0, hw0, hc0⟩ := ReadsInt.ofRowC w0
 obtain ⟨k, h⟩ := P l0 hm0 y0 hw0
 refine (laws_FnEach.calls k _ _ l0 true w (Kd.C_of_reads (d := (0 : Int)) (h1 := fun _ => rfl) hr0) hc0 rfl h).mono ?_
 rintro e w' ⟨rfl, hd⟩
 exact ⟨rfl, hd⟩

end Go.Proofs.Yteajnkondkfmgaa.PFnEach
