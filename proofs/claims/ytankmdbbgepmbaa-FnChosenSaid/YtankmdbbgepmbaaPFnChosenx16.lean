-- Made by a program of this session out of the translation. Lean checks it.
import Derived.Test.YtankmdbbgepmbaaPFnChosenx8
import Derived.Test.YtankmdbbgepmbaaPFnChosenx14
import Derived.Test.YtankmdbbgepmbaaPFnChosenx15
namespace Go.Proofs.Ytankmdbbgepmbaa.PFnChosen
open Go.RowKit Go.Proofs.YtankmdbbgepmbaaW.PrintWords Go.Proofs.YtankmdbbgepmbaaW.PrintLast Go.Proofs.YtankmdbbgepmbaaW.PrintMore
attribute [local go_sem] max2_int min2_int max_two min_two max_three min_three max_four min_four   -- for this text's walks alone
set_option linter.unusedVariables false
set_option linter.unusedSimpArgs false

/-! ### laws_FnChosen: function 6 -/
mutual
def laws_FnChosen.j0 : Nat → List Int → List Int → Bool → Int → Int → List Int → Int → Int → Int → Bool → Int → Option (Bool)
 | 0, _, _, _, _, _, _, _, _, _, _, _ => none
 | k + 1, x5, x6, x32, x535000, x535001, x535002, x536000, x536001, x536002, x536003, x536004 => if x32 = true then ((laws_sameInts.f k x5 x6).bind fun t543 => (some t543)) else ((impl_Near.f k x535000 x535001 x535002 x536001 false).bind fun t544 => (laws_FnChosen.l0 k x5 t544 0 x535000 x535001 x535002 x536000 x536001 x536002 x536003 x536004))
def laws_FnChosen.l0 : Nat → List Int → List Int → Int → Int → Int → List Int → Int → Int → Int → Bool → Int → Option (Bool)
 | 0, _, _, _, _, _, _, _, _, _, _, _ => none
 | k + 1, x5, x7, x8, x535000, x535001, x535002, x536000, x536001, x536002, x536003, x536004 => if x8 < (x5.length : Int) then (if 0 ≤ x8 then (if (rd x5 x8) = x536001 then (laws_FnChosen.l0 k x5 x7 (wrap64 (x8 + 1)) x535000 x535001 x535002 x536000 x536001 x536002 x536003 x536004) else ((laws_among.f k x7 (rd x5 x8)).bind fun t549 => (if t549 = true then (laws_FnChosen.l0 k x5 x7 (wrap64 (x8 + 1)) x535000 x535001 x535002 x536000 x536001 x536002 x536003 x536004) else (some false)))) else (none)) else (if x536002 = (-1) then (if 0 < (x5.length : Int) then (if (rd x5 0) = x536001 then (some (decide ((x5.length : Int) ≤ 5))) else (some false)) else (none)) else ((impl_Field.f k x535000 x535001 x535002 x536002 x536003).bind fun t551 => (laws_FnChosen.l1 k x5 t551 1 x536000 x536001 x536002 x536003 x536004)))
def laws_FnChosen.l1 : Nat → List Int → List Int → Int → Int → Int → Int → Bool → Int → Option (Bool)
 | 0, _, _, _, _, _, _, _, _ => none
 | k + 1, x5, x9, x10, x536000, x536001, x536002, x536003, x536004 => if x10 < (x5.length : Int) then (if 0 ≤ x10 then (if 0 ≤ (rd x5 x10) then (if (rd x5 x10) < (x9.length : Int) then (if (rd x9 (rd x5 x10)) ≥ 0 then (if 0 ≤ (wrap64 (x10 - 1)) then (if (wrap64 (x10 - 1)) < (x5.length : Int) then (if 0 ≤ (rd x5 (wrap64 (x10 - 1))) then (if (rd x5 (wrap64 (x10 - 1))) < (x9.length : Int) then (if (rd x9 (rd x5 (wrap64 (x10 - 1)))) < 0 then (some false) else (if (rd x9 (rd x5 (wrap64 (x10 - 1)))) > (rd x9 (rd x5 x10)) then (some false) else (laws_FnChosen.l1 k x5 x9 (wrap64 (x10 + 1)) x536000 x536001 x536002 x536003 x536004))) else (none)) else (none)) else (none)) else (none)) else (laws_FnChosen.l1 k x5 x9 (wrap64 (x10 + 1)) x536000 x536001 x536002 x536003 x536004)) else (none)) else (none)) else (none)) else ((laws_among.f k x5 x536001).bind fun t562 => (some t562))
end
def laws_FnChosen.f (k : Nat) (l0 : List Int) : Option (Bool) := (laws_big.f l0).bind fun t523 => (if t523 = true then (some true) else ((spec_DrawChoices.f k l0).bind fun bt524 => ((impl_Choices.f k bt524.1 bt524.2.1 bt524.2.2.1 bt524.2.2.2.1 bt524.2.2.2.2.1 bt524.2.2.2.2.2.1 bt524.2.2.2.2.2.2.1 bt524.2.2.2.2.2.2.2).bind fun t536 => ((spec_Choices.f k bt524.1 bt524.2.1 bt524.2.2.1 bt524.2.2.2.1 bt524.2.2.2.2.1 bt524.2.2.2.2.2.1 bt524.2.2.2.2.2.2.1 bt524.2.2.2.2.2.2.2).bind fun t539 => ((laws_sameInts.f k t536 t539).bind fun t542 => (if t542 = true then (laws_FnChosen.j0 k t536 t539 ((t536.length : Int) == 0) bt524.1 bt524.2.1 bt524.2.2.1 bt524.2.2.2.1 bt524.2.2.2.2.1 bt524.2.2.2.2.2.1 bt524.2.2.2.2.2.2.1 bt524.2.2.2.2.2.2.2) else (laws_FnChosen.j0 k t536 t539 true bt524.1 bt524.2.1 bt524.2.2.1 bt524.2.2.2.1 bt524.2.2.2.2.1 bt524.2.2.2.2.2.1 bt524.2.2.2.2.2.2.1 bt524.2.2.2.2.2.2.2)))))))
theorem laws_FnChosen.mono_l : ∀ k, (∀ y0 y1 y2 y3 y4 y5 y6 y7 y8 y9 y10, LeO (laws_FnChosen.j0 k y0 y1 y2 y3 y4 y5 y6 y7 y8 y9 y10) (laws_FnChosen.j0 (k + 1) y0 y1 y2 y3 y4 y5 y6 y7 y8 y9 y10)) ∧ (∀ y0 y1 y2 y3 y4 y5 y6 y7 y8 y9 y10, LeO (laws_FnChosen.l0 k y0 y1 y2 y3 y4 y5 y6 y7 y8 y9 y10) (laws_FnChosen.l0 (k + 1) y0 y1 y2 y3 y4 y5 y6 y7 y8 y9 y10)) ∧ (∀ y0 y1 y2 y3 y4 y5 y6 y7, LeO (laws_FnChosen.l1 k y0 y1 y2 y3 y4 y5 y6 y7) (laws_FnChosen.l1 (k + 1) y0 y1 y2 y3 y4 y5 y6 y7))
 | 0 => ⟨fun _ _ _ _ _ _ _ _ _ _ _ r h => by simp [laws_FnChosen.j0] at h, fun _ _ _ _ _ _ _ _ _ _ _ r h => by simp [laws_FnChosen.l0] at h, fun _ _ _ _ _ _ _ _ r h => by simp [laws_FnChosen.l1] at h⟩
 | k + 1 => by
  obtain ⟨ih0, ih1, ih2⟩ := laws_FnChosen.mono_l k
  refine ⟨?_, ?_, ?_⟩
  {
  intro y0 y1 y2 y3 y4 y5 y6 y7 y8 y9 y10
  unfold laws_FnChosen.j0
  have j0 := @impl_Choices.mono
  have j1 := @impl_Field.mono
  have j2 := @impl_Near.mono
  have j3 := @laws_among.mono
  have j4 := @laws_sameInts.mono
  have j5 := @spec_Choices.mono
  have j6 := @spec_DrawChoices.mono
  exact qL
  }
  {
  intro y0 y1 y2 y3 y4 y5 y6 y7 y8 y9 y10
  unfold laws_FnChosen.l0
  have j0 := @impl_Choices.mono
  have j1 := @impl_Field.mono
  have j2 := @impl_Near.mono
  have j3 := @laws_among.mono
  have j4 := @laws_sameInts.mono
  have j5 := @spec_Choices.mono
  have j6 := @spec_DrawChoices.mono
  exact qL
  }
  {
  intro y0 y1 y2 y3 y4 y5 y6 y7
  unfold laws_FnChosen.l1
  have j0 := @impl_Choices.mono
  have j1 := @impl_Field.mono
  have j2 := @impl_Near.mono
  have j3 := @laws_among.mono
  have j4 := @laws_sameInts.mono
  have j5 := @spec_Choices.mono
  have j6 := @spec_DrawChoices.mono
  exact qL
  }
theorem laws_FnChosen.mono : ∀ a0 k, LeO (laws_FnChosen.f k a0) (laws_FnChosen.f (k + 1) a0) := by
 intro a0 k
 obtain ⟨ih0, ih1, ih2⟩ := laws_FnChosen.mono_l k
 unfold laws_FnChosen.f
 have j0 := @impl_Choices.mono
 have j1 := @impl_Field.mono
 have j2 := @impl_Near.mono
 have j3 := @laws_among.mono
 have j4 := @laws_sameInts.mono
 have j5 := @spec_Choices.mono
 have j6 := @spec_DrawChoices.mono
 exact qL
set_option maxHeartbeats 8000000 in
set_option maxRecDepth 100000 in
theorem laws_FnChosen.calls (k : Nat) (A0 : Option Addr) (c0 : Nat) (l0 : List Int) (r : Bool) (w : World) (hr0 : Kd.C (Kd.int .u8) w A0 l0.length l0) (hc0 : l0.length ≤ c0) (hT : r = true) (h : laws_FnChosen.f k l0 = some r) :
  Calls Try.prog 6 #[.slice A0 l0.length c0] w fun e w' => e = .returned (.bool r) ∧ Below w.heap.size w w' := by
 have HTR_ := aM hT
 clear hT
 have hu43 := Try.underlying43
 have hu37 := Try.underlying37
 have HR0 := aM hr0
 have HC0 := aM hc0
 clear hr0 hc0
 have HB := aM (Below.refl w.heap.size w)
 have H : ((laws_big.f l0).bind fun t523 => (if t523 = true then (some true) else ((spec_DrawChoices.f k l0).bind fun bt524 => ((impl_Choices.f k bt524.1 bt524.2.1 bt524.2.2.1 bt524.2.2.2.1 bt524.2.2.2.2.1 bt524.2.2.2.2.2.1 bt524.2.2.2.2.2.2.1 bt524.2.2.2.2.2.2.2).bind fun t536 => ((spec_Choices.f k bt524.1 bt524.2.1 bt524.2.2.1 bt524.2.2.2.1 bt524.2.2.2.2.1 bt524.2.2.2.2.2.1 bt524.2.2.2.2.2.2.1 bt524.2.2.2.2.2.2.2).bind fun t539 => ((laws_sameInts.f k t536 t539).bind fun t542 => (if t542 = true then (laws_FnChosen.j0 k t536 t539 ((t536.length : Int) == 0) bt524.1 bt524.2.1 bt524.2.2.1 bt524.2.2.2.1 bt524.2.2.2.2.1 bt524.2.2.2.2.2.1 bt524.2.2.2.2.2.2.1 bt524.2.2.2.2.2.2.2) else (laws_FnChosen.j0 k t536 t539 true bt524.1 bt524.2.1 bt524.2.2.1 bt524.2.2.2.1 bt524.2.2.2.2.1 bt524.2.2.2.2.2.1 bt524.2.2.2.2.2.2.1 bt524.2.2.2.2.2.2.2)))))))) = some r := h
 clear h
 replace H := Option.bind_eq_some_iff.mp H
 obtain ⟨t523, A20, H⟩ := H
 replace H : (if t523 = true then (some true) else ((spec_DrawChoices.f k l0).bind fun bt524 => ((impl_Choices.f k bt524.1 bt524.2.1 bt524.2.2.1 bt524.2.2.2.1 bt524.2.2.2.2.1 bt524.2.2.2.2.2.1 bt524.2.2.2.2.2.2.1 bt524.2.2.2.2.2.2.2).bind fun t536 => ((spec_Choices.f k bt524.1 bt524.2.1 bt524.2.2.1 bt524.2.2.2.1 bt524.2.2.2.2.1 bt524.2.2.2.2.2.1 bt524.2.2.2.2.2.2.1 bt524.2.2.2.2.2.2.2).bind fun t539 => ((laws_sameInts.f k t536 t539).bind fun t542 => (if t542 = true then (laws_FnChosen.j0 k t536 t539 ((t536.length : Int) == 0) bt524.1 bt524.2.1 bt524.2.2.1 bt524.2.2.2.1 bt524.2.2.2.2.1 bt524.2.2.2.2.2.1 bt524.2.2.2.2.2.2.1 bt524.2.2.2.2.2.2.2) else (laws_FnChosen.j0 k t536 t539 true bt524.1 bt524.2.1 bt524.2.2.1 bt524.2.2.2.1 bt524.2.2.2.2.1 bt524.2.2.2.2.2.1 bt524.2.2.2.2.2.2.1 bt524.2.2.2.2.2.2.2))))))) = some r := H
 have A2 := aM A20
 clear A20
 by_cases c3 : t523 = true
 {
 subst c3
 rw [if_pos rfl] at H
 obtain rfl := Option.some.inj H
 simp only [Option.some.injEq, Prod.mk.injEq] at H
 obtain ⟨rfl⟩ := H
 go_enter Try.func6, Try.ntmps6
 go_wp2_with (first | (go_at_call 23; (with_reducible refine (laws_big.calls _ _ l0 true _ ?side1 ?side2 A2.out).mono ?_); (case side1 => exact qz13); (case side2 => exact HC0.out); rintro e w' ⟨rfl, ⟨nd, rfl⟩⟩; (try first | exact ⟨rfl, _, World.drewN_drewN _ _ _⟩ | exact ⟨rfl, _, Eq.trans (World.drewN_drewN _ _ _) (congrArg (World.drewN _) (Nat.add_assoc _ _ _))⟩)))
 repeat (go_quiet (first | (go_at_call 23; (with_reducible refine (laws_big.calls _ _ l0 true _ ?side1 ?side2 A2.out).mono ?_); (case side1 => exact qz13); (case side2 => exact HC0.out); rintro e w' ⟨rfl, ⟨nd, rfl⟩⟩; (try first | exact ⟨rfl, _, World.drewN_drewN _ _ _⟩ | exact ⟨rfl, _, Eq.trans (World.drewN_drewN _ _ _) (congrArg (World.drewN _) (Nat.add_assoc _ _ _))⟩))); try go_wp2_with (first | (go_at_call 23; (with_reducible refine (laws_big.calls _ _ l0 true _ ?side1 ?side2 A2.out).mono ?_); (case side1 => exact qz13); (case side2 => exact HC0.out); rintro e w' ⟨rfl, ⟨nd, rfl⟩⟩; (try first | exact ⟨rfl, _, World.drewN_drewN _ _ _⟩ | exact ⟨rfl, _, Eq.trans (World.drewN_drewN _ _ _) (congrArg (World.drewN _) (Nat.add_assoc _ _ _))⟩))))
 go_ret
 exact ⟨qzw, qz1⟩
 }
 {
 replace c3 := Bool.eq_false_iff.mpr c3
 subst c3
 rw [if_neg (show ¬ (false = true) by decide)] at H
 replace H := Option.bind_eq_some_iff.mp H
 obtain ⟨⟨t524, t525, t526, t529, t530, t531, t532, t533⟩, A40, H⟩ := H
 replace H : ((impl_Choices.f k t524 t525 t526 t529 t530 t531 t532 t533).bind fun t536 => ((spec_Choices.f k t524 t525 t526 t529 t530 t531 t532 t533).bind fun t539 => ((laws_sameInts.f k t536 t539).bind fun t542 => (if t542 = true then (laws_FnChosen.j0 k t536 t539 ((t536.length : Int) == 0) t524 t525 t526 t529 t530 t531 t532 t533) else (laws_FnChosen.j0 k t536 t539 true t524 t525 t526 t529 t530 t531 t532 t533))))) = some r := H
 have A4 := aM A40
 clear A40
 replace H := Option.bind_eq_some_iff.mp H
 obtain ⟨t536, A50, H⟩ := H
 replace H : ((spec_Choices.f k t524 t525 t526 t529 t530 t531 t532 t533).bind fun t539 => ((laws_sameInts.f k t536 t539).bind fun t542 => (if t542 = true then (laws_FnChosen.j0 k t536 t539 ((t536.length : Int) == 0) t524 t525 t526 t529 t530 t531 t532 t533) else (laws_FnChosen.j0 k t536 t539 true t524 t525 t526 t529 t530 t531 t532 t533)))) = some r := H
 have A5 := aM A50
 clear A50
 replace H := Option.bind_eq_some_iff.mp H
 obtain ⟨t539, A60, H⟩ := H
 replace H : ((laws_sameInts.f k t536 t539).bind fun t542 => (if t542 = true then (laws_FnChosen.j0 k t536 t539 ((t536.length : Int) == 0) t524 t525 t526 t529 t530 t531 t532 t533) else (laws_FnChosen.j0 k t536 t539 true t524 t525 t526 t529 t530 t531 t532 t533))) = some r := H
 have A6 := aM A60
 clear A60
 have HC7 := aM H
 clear H
 go_enter Try.func6, Try.ntmps6
 go_upto_region 6 with (first | (go_at_call 23; (with_reducible refine (laws_big.calls _ _ l0 false _ ?side1 ?side2 A2.out).mono ?_); (case side1 => exact qz13); (case side2 => exact HC0.out); rintro e w' ⟨rfl, ⟨nd, rfl⟩⟩; (try first | exact ⟨rfl, _, World.drewN_drewN _ _ _⟩ | exact ⟨rfl, _, Eq.trans (World.drewN_drewN _ _ _) (congrArg (World.drewN _) (Nat.add_assoc _ _ _))⟩)) | (go_at_call 32; (with_reducible refine (spec_DrawChoices.calls k _ _ l0 t524 t525 t526 t529 t530 t531 t532 t533 _ ?side1 ?side2 A4.out).mono ?_); (case side1 => exact qz13); (case side2 => exact HC0.out); rintro e w8 ⟨v527, rfl, ho0, hb⟩; have HO528 := aM (Kd.R_lower ho0 (below_size qz1)); replace HB := bS_ hb; (try clear hb ho0)) | ((with_reducible refine gate_dst (N := 3) rfl ?_); (try (refine gate_guard (by rfl) ?_; dsimp only)); refine bx_ 3 #[.int .i64 0, .int .i64 0, .slice none 0 0] 43 ?_; intro gb534 hg w9 hbox hb; replace HO528 := aM (Kd.R_below (rr_ HO528.out) hb); have BK534 := aM (hbox); have GW534 := aM (bz_ w hg qz1); have GE534 := GW534; replace HB := bS_ hb; clear hb hbox hg) | ((with_reducible refine gate_dst (N := 4) rfl ?_); (try (refine gate_guard (by rfl) ?_; dsimp only)); refine bx_ 4 #[.int .i64 0, .int .i64 0, .int .i64 0, .bool false, .int .i64 0] 37 ?_; intro gb535 hg w10 hbox hb; replace HO528 := aM (Kd.R_below (rr_ HO528.out) hb); have BK535 := aM (hbox); have GW535 := aM (bz_ w hg qz1); have GE535 := GW535; replace HB := bS_ hb; obtain ⟨NB534_535, NB535_534⟩ := nb_ hg (bk_ BK534.out); replace BK534 := bB_ BK534 hb; clear hb hbox hg; have hnb11 := NB534_535.out; have hnc11 := NB535_534.out; obtain ⟨hcz12_0, hcz12_1, hcz12_2, hfz12_0, hfz12_1, hfz12_2⟩ := b6_ BK534.out; obtain ⟨Ao13, co13, eo13⟩ := Kd.R_slice HO528.out; subst eo13; have hcz14_0 := bc0_ BK535.out; have hcz14_1 := bc1_ BK535.out; have hcz14_2 := bc2_ BK535.out; have hcz14_3 := bc3_ BK535.out; have hcz14_4 := bc4_ BK535.out; have hfz14_0 := blk_frozen BK535.out 0; have hfz14_1 := blk_frozen BK535.out 1; have hfz14_2 := blk_frozen BK535.out 2; have hfz14_3 := blk_frozen BK535.out 3; have hfz14_4 := blk_frozen BK535.out 4) | (go_at_call 29; (with_reducible refine (impl_Choices.calls k t524 t525 _ _ t526 t529 t530 t531 t532 t533 t536 _ ?side1 ?side2 A5.out).mono ?_); (case side1 => refine (Kd.R_reads' (e := 3) (base := w.heap.size) (ok := fun k_ => True) (n := t526.length) (c := co13) ?_).2.2; exact (by (with_reducible repeat (first | apply Kd.R_alloc | apply Kd.R_drewN | apply Kd.R_drew)); exact (Kd.R_mono (Kd.R_mono (Kd.R_far (p := ⟨gb535, 4, none⟩) (Kd.R_far (p := ⟨gb535, 3, none⟩) (Kd.R_far (p := ⟨gb535, 2, none⟩) (Kd.R_far (p := ⟨gb535, 1, none⟩) (Kd.R_far (p := ⟨gb535, 0, none⟩) (Kd.R_far (p := ⟨gb534, 2, none⟩) (Kd.R_far (p := ⟨gb534, 1, none⟩) (Kd.R_far (p := ⟨gb534, 0, none⟩) (Kd.R_types (Kd.R_types HO528.out BK534.out (by decide)) BK535.out (by decide)) (fun _ hk => hk.1.2) (.int .i64 t524)) (fun _ hk => hk.1.2) (.int .i64 t525)) (fun _ hk => hk.1.2) (.slice Ao13 t526.length co13)) (fun _ hk => hk.2) (.int .i64 t529)) (fun _ hk => hk.2) (.int .i64 t530)) (fun _ hk => hk.2) (.int .i64 t531)) (fun _ hk => hk.2) (.bool t532)) (fun _ hk => hk.2) (.int .i64 t533)) (fun _ h_ => h_.1)) (fun _ h_ => h_.1)))); (case side2 => exact (Kd.R_reads' HO528.out).2.1); rintro e w15 ⟨v537, rfl, ho0, hb⟩; have HO538 := aM (Kd.R_lower (Kd.R_new' ho0 (Kd.R_lt (by (with_reducible repeat (first | apply Kd.R_alloc | apply Kd.R_drewN | apply Kd.R_drew)); exact (Kd.R_mono (Kd.R_mono (Kd.R_far (p := ⟨gb535, 4, none⟩) (Kd.R_far (p := ⟨gb535, 3, none⟩) (Kd.R_far (p := ⟨gb535, 2, none⟩) (Kd.R_far (p := ⟨gb535, 1, none⟩) (Kd.R_far (p := ⟨gb535, 0, none⟩) (Kd.R_far (p := ⟨gb534, 2, none⟩) (Kd.R_far (p := ⟨gb534, 1, none⟩) (Kd.R_far (p := ⟨gb534, 0, none⟩) (Kd.R_types (Kd.R_types HO528.out BK534.out (by decide)) BK535.out (by decide)) (fun _ hk => hk.1.2) (.int .i64 t524)) (fun _ hk => hk.1.2) (.int .i64 t525)) (fun _ hk => hk.1.2) (.slice Ao13 t526.length co13)) (fun _ hk => hk.2) (.int .i64 t529)) (fun _ hk => hk.2) (.int .i64 t530)) (fun _ hk => hk.2) (.int .i64 t531)) (fun _ hk => hk.2) (.bool t532)) (fun _ hk => hk.2) (.int .i64 t533)) (fun _ h_ => h_.1)) (fun _ h_ => h_.1))))) (below_size qz1)); replace HO528 := aM (Kd.R_elder' (by (with_reducible repeat (first | apply Kd.R_alloc | apply Kd.R_drewN | apply Kd.R_drew)); exact (Kd.R_mono (Kd.R_mono (Kd.R_far (p := ⟨gb535, 4, none⟩) (Kd.R_far (p := ⟨gb535, 3, none⟩) (Kd.R_far (p := ⟨gb535, 2, none⟩) (Kd.R_far (p := ⟨gb535, 1, none⟩) (Kd.R_far (p := ⟨gb535, 0, none⟩) (Kd.R_far (p := ⟨gb534, 2, none⟩) (Kd.R_far (p := ⟨gb534, 1, none⟩) (Kd.R_far (p := ⟨gb534, 0, none⟩) (Kd.R_types (Kd.R_types HO528.out BK534.out (by decide)) BK535.out (by decide)) (fun _ hk => hk.1.2) (.int .i64 t524)) (fun _ hk => hk.1.2) (.int .i64 t525)) (fun _ hk => hk.1.2) (.slice Ao13 t526.length co13)) (fun _ hk => hk.2) (.int .i64 t529)) (fun _ hk => hk.2) (.int .i64 t530)) (fun _ hk => hk.2) (.int .i64 t531)) (fun _ hk => hk.2) (.bool t532)) (fun _ hk => hk.2) (.int .i64 t533)) (fun _ h_ => h_.1)) (fun _ h_ => h_.1))) (Kd.R_base ho0) hb); replace BK534 := aM (blk_below (g := gb534) (o := .cells #[.int .i64 t524, .int .i64 t525, .slice Ao13 t526.length co13] 43 (0, 0)) (by (with_reducible repeat (first | refine blk_drewN ?_ _ | refine blk_drew ?_ | refine blk_alloc ?_ _)); refine blk_far ?_ NB534_535.out _; (with_reducible repeat (first | refine blk_drewN ?_ _ | refine blk_drew ?_ | refine blk_alloc ?_ _)); refine blk_far ?_ NB534_535.out _; (with_reducible repeat (first | refine blk_drewN ?_ _ | refine blk_drew ?_ | refine blk_alloc ?_ _)); refine blk_far ?_ NB534_535.out _; (with_reducible repeat (first | refine blk_drewN ?_ _ | refine blk_drew ?_ | refine blk_alloc ?_ _)); refine blk_far ?_ NB534_535.out _; (with_reducible repeat (first | refine blk_drewN ?_ _ | refine blk_drew ?_ | refine blk_alloc ?_ _)); refine blk_far ?_ NB534_535.out _; (with_reducible repeat (first | refine blk_drewN ?_ _ | refine blk_drew ?_ | refine blk_alloc ?_ _)); refine blk_put (cs := #[.int .i64 t524, .int .i64 t525, .slice none 0 0]) ?_ 2 _ rfl; (with_reducible repeat (first | refine blk_drewN ?_ _ | refine blk_drew ?_ | refine blk_alloc ?_ _)); refine blk_put (cs := #[.int .i64 t524, .int .i64 0, .slice none 0 0]) ?_ 1 _ rfl; (with_reducible repeat (first | refine blk_drewN ?_ _ | refine blk_drew ?_ | refine blk_alloc ?_ _)); refine blk_put (cs := #[.int .i64 0, .int .i64 0, .slice none 0 0]) ?_ 0 _ rfl; exact bk_ BK534.out) hb); replace BK535 := aM (blk_below (g := gb535) (o := .cells #[.int .i64 t529, .int .i64 t530, .int .i64 t531, .bool t532, .int .i64 t533] 37 (0, 0)) (by (with_reducible repeat (first | refine blk_drewN ?_ _ | refine blk_drew ?_ | refine blk_alloc ?_ _)); refine blk_put (cs := #[.int .i64 t529, .int .i64 t530, .int .i64 t531, .bool t532, .int .i64 0]) ?_ 4 _ rfl; (with_reducible repeat (first | refine blk_drewN ?_ _ | refine blk_drew ?_ | refine blk_alloc ?_ _)); refine blk_put (cs := #[.int .i64 t529, .int .i64 t530, .int .i64 t531, .bool false, .int .i64 0]) ?_ 3 _ rfl; (with_reducible repeat (first | refine blk_drewN ?_ _ | refine blk_drew ?_ | refine blk_alloc ?_ _)); refine blk_put (cs := #[.int .i64 t529, .int .i64 t530, .int .i64 0, .bool false, .int .i64 0]) ?_ 2 _ rfl; (with_reducible repeat (first | refine blk_drewN ?_ _ | refine blk_drew ?_ | refine blk_alloc ?_ _)); refine blk_put (cs := #[.int .i64 t529, .int .i64 0, .int .i64 0, .bool false, .int .i64 0]) ?_ 1 _ rfl; (with_reducible repeat (first | refine blk_drewN ?_ _ | refine blk_drew ?_ | refine blk_alloc ?_ _)); refine blk_put (cs := #[.int .i64 0, .int .i64 0, .int .i64 0, .bool false, .int .i64 0]) ?_ 0 _ rfl; (with_reducible repeat (first | refine blk_drewN ?_ _ | refine blk_drew ?_ | refine blk_alloc ?_ _)); exact bk2_ BK535.out) hb); replace HB := bS_ hb; (try clear hb ho0); obtain ⟨hcz16_0, hcz16_1, hcz16_2, hfz16_0, hfz16_1, hfz16_2⟩ := b6_ BK534.out; have hcz17_0 := bc0_ BK535.out; have hcz17_1 := bc1_ BK535.out; have hcz17_2 := bc2_ BK535.out; have hcz17_3 := bc3_ BK535.out; have hcz17_4 := bc4_ BK535.out; have hfz17_0 := blk_frozen BK535.out 0; have hfz17_1 := blk_frozen BK535.out 1; have hfz17_2 := blk_frozen BK535.out 2; have hfz17_3 := blk_frozen BK535.out 3; have hfz17_4 := blk_frozen BK535.out 4) | (go_at_call 26; (with_reducible refine (spec_Choices.calls k t524 t525 _ _ t526 t529 t530 t531 t532 t533 t539 _ ?side1 ?side2 A6.out).mono ?_); (case side1 => exact qz25); (case side2 => exact (Kd.R_reads' HO528.out).2.1); rintro e w18 ⟨v540, rfl, ho0, hb⟩; have HO541 := aM (Kd.R_lower (Kd.R_new' (Kd.R_new' ho0 (Kd.R_lt (rr_ HO528.out))) (Kd.R_lt (rr_ HO538.out))) (below_size qz1)); replace HO528 := aM (Kd.R_elder' (rr_ HO528.out) (Kd.R_base ho0) hb); replace HO538 := aM (Kd.R_elder' (rr_ HO538.out) (Kd.R_base ho0) hb); replace BK534 := bB_ BK534 hb; replace BK535 := bB_ BK535 hb; replace HB := bS_ hb; (try clear hb ho0)))
 repeat (go_quiet (first | (go_at_call 23; (with_reducible refine (laws_big.calls _ _ l0 false _ ?side1 ?side2 A2.out).mono ?_); (case side1 => exact qz13); (case side2 => exact HC0.out); rintro e w' ⟨rfl, ⟨nd, rfl⟩⟩; (try first | exact ⟨rfl, _, World.drewN_drewN _ _ _⟩ | exact ⟨rfl, _, Eq.trans (World.drewN_drewN _ _ _) (congrArg (World.drewN _) (Nat.add_assoc _ _ _))⟩)) | (go_at_call 32; (with_reducible refine (spec_DrawChoices.calls k _ _ l0 t524 t525 t526 t529 t530 t531 t532 t533 _ ?side1 ?side2 A4.out).mono ?_); (case side1 => exact qz13); (case side2 => exact HC0.out); rintro e w8 ⟨v527, rfl, ho0, hb⟩; have HO528 := aM (Kd.R_lower ho0 (below_size qz1)); replace HB := bS_ hb; (try clear hb ho0)) | ((with_reducible refine gate_dst (N := 3) rfl ?_); (try (refine gate_guard (by rfl) ?_; dsimp only)); refine bx_ 3 #[.int .i64 0, .int .i64 0, .slice none 0 0] 43 ?_; intro gb534 hg w9 hbox hb; replace HO528 := aM (Kd.R_below (rr_ HO528.out) hb); have BK534 := aM (hbox); have GW534 := aM (bz_ w hg qz1); have GE534 := GW534; replace HB := bS_ hb; clear hb hbox hg) | ((with_reducible refine gate_dst (N := 4) rfl ?_); (try (refine gate_guard (by rfl) ?_; dsimp only)); refine bx_ 4 #[.int .i64 0, .int .i64 0, .int .i64 0, .bool false, .int .i64 0] 37 ?_; intro gb535 hg w10 hbox hb; replace HO528 := aM (Kd.R_below (rr_ HO528.out) hb); have BK535 := aM (hbox); have GW535 := aM (bz_ w hg qz1); have GE535 := GW535; replace HB := bS_ hb; obtain ⟨NB534_535, NB535_534⟩ := nb_ hg (bk_ BK534.out); replace BK534 := bB_ BK534 hb; clear hb hbox hg; have hnb11 := NB534_535.out; have hnc11 := NB535_534.out; obtain ⟨hcz12_0, hcz12_1, hcz12_2, hfz12_0, hfz12_1, hfz12_2⟩ := b6_ BK534.out; obtain ⟨Ao13, co13, eo13⟩ := Kd.R_slice HO528.out; subst eo13; have hcz14_0 := bc0_ BK535.out; have hcz14_1 := bc1_ BK535.out; have hcz14_2 := bc2_ BK535.out; have hcz14_3 := bc3_ BK535.out; have hcz14_4 := bc4_ BK535.out; have hfz14_0 := blk_frozen BK535.out 0; have hfz14_1 := blk_frozen BK535.out 1; have hfz14_2 := blk_frozen BK535.out 2; have hfz14_3 := blk_frozen BK535.out 3; have hfz14_4 := blk_frozen BK535.out 4) | (go_at_call 29; (with_reducible refine (impl_Choices.calls k t524 t525 _ _ t526 t529 t530 t531 t532 t533 t536 _ ?side1 ?side2 A5.out).mono ?_); (case side1 => refine (Kd.R_reads' (e := 3) (base := w.heap.size) (ok := fun k_ => True) (n := t526.length) (c := co13) ?_).2.2; exact (by (with_reducible repeat (first | apply Kd.R_alloc | apply Kd.R_drewN | apply Kd.R_drew)); exact (Kd.R_mono (Kd.R_mono (Kd.R_far (p := ⟨gb535, 4, none⟩) (Kd.R_far (p := ⟨gb535, 3, none⟩) (Kd.R_far (p := ⟨gb535, 2, none⟩) (Kd.R_far (p := ⟨gb535, 1, none⟩) (Kd.R_far (p := ⟨gb535, 0, none⟩) (Kd.R_far (p := ⟨gb534, 2, none⟩) (Kd.R_far (p := ⟨gb534, 1, none⟩) (Kd.R_far (p := ⟨gb534, 0, none⟩) (Kd.R_types (Kd.R_types HO528.out BK534.out (by decide)) BK535.out (by decide)) (fun _ hk => hk.1.2) (.int .i64 t524)) (fun _ hk => hk.1.2) (.int .i64 t525)) (fun _ hk => hk.1.2) (.slice Ao13 t526.length co13)) (fun _ hk => hk.2) (.int .i64 t529)) (fun _ hk => hk.2) (.int .i64 t530)) (fun _ hk => hk.2) (.int .i64 t531)) (fun _ hk => hk.2) (.bool t532)) (fun _ hk => hk.2) (.int .i64 t533)) (fun _ h_ => h_.1)) (fun _ h_ => h_.1)))); (case side2 => exact (Kd.R_reads' HO528.out).2.1); rintro e w15 ⟨v537, rfl, ho0, hb⟩; have HO538 := aM (Kd.R_lower (Kd.R_new' ho0 (Kd.R_lt (by (with_reducible repeat (first | apply Kd.R_alloc | apply Kd.R_drewN | apply Kd.R_drew)); exact (Kd.R_mono (Kd.R_mono (Kd.R_far (p := ⟨gb535, 4, none⟩) (Kd.R_far (p := ⟨gb535, 3, none⟩) (Kd.R_far (p := ⟨gb535, 2, none⟩) (Kd.R_far (p := ⟨gb535, 1, none⟩) (Kd.R_far (p := ⟨gb535, 0, none⟩) (Kd.R_far (p := ⟨gb534, 2, none⟩) (Kd.R_far (p := ⟨gb534, 1, none⟩) (Kd.R_far (p := ⟨gb534, 0, none⟩) (Kd.R_types (Kd.R_types HO528.out BK534.out (by decide)) BK535.out (by decide)) (fun _ hk => hk.1.2) (.int .i64 t524)) (fun _ hk => hk.1.2) (.int .i64 t525)) (fun _ hk => hk.1.2) (.slice Ao13 t526.length co13)) (fun _ hk => hk.2) (.int .i64 t529)) (fun _ hk => hk.2) (.int .i64 t530)) (fun _ hk => hk.2) (.int .i64 t531)) (fun _ hk => hk.2) (.bool t532)) (fun _ hk => hk.2) (.int .i64 t533)) (fun _ h_ => h_.1)) (fun _ h_ => h_.1))))) (below_size qz1)); replace HO528 := aM (Kd.R_elder' (by (with_reducible repeat (first | apply Kd.R_alloc | apply Kd.R_drewN | apply Kd.R_drew)); exact (Kd.R_mono (Kd.R_mono (Kd.R_far (p := ⟨gb535, 4, none⟩) (Kd.R_far (p := ⟨gb535, 3, none⟩) (Kd.R_far (p := ⟨gb535, 2, none⟩) (Kd.R_far (p := ⟨gb535, 1, none⟩) (Kd.R_far (p := ⟨gb535, 0, none⟩) (Kd.R_far (p := ⟨gb534, 2, none⟩) (Kd.R_far (p := ⟨gb534, 1, none⟩) (Kd.R_far (p := ⟨gb534, 0, none⟩) (Kd.R_types (Kd.R_types HO528.out BK534.out (by decide)) BK535.out (by decide)) (fun _ hk => hk.1.2) (.int .i64 t524)) (fun _ hk => hk.1.2) (.int .i64 t525)) (fun _ hk => hk.1.2) (.slice Ao13 t526.length co13)) (fun _ hk => hk.2) (.int .i64 t529)) (fun _ hk => hk.2) (.int .i64 t530)) (fun _ hk => hk.2) (.int .i64 t531)) (fun _ hk => hk.2) (.bool t532)) (fun _ hk => hk.2) (.int .i64 t533)) (fun _ h_ => h_.1)) (fun _ h_ => h_.1))) (Kd.R_base ho0) hb); replace BK534 := aM (blk_below (g := gb534) (o := .cells #[.int .i64 t524, .int .i64 t525, .slice Ao13 t526.length co13] 43 (0, 0)) (by (with_reducible repeat (first | refine blk_drewN ?_ _ | refine blk_drew ?_ | refine blk_alloc ?_ _)); refine blk_far ?_ NB534_535.out _; (with_reducible repeat (first | refine blk_drewN ?_ _ | refine blk_drew ?_ | refine blk_alloc ?_ _)); refine blk_far ?_ NB534_535.out _; (with_reducible repeat (first | refine blk_drewN ?_ _ | refine blk_drew ?_ | refine blk_alloc ?_ _)); refine blk_far ?_ NB534_535.out _; (with_reducible repeat (first | refine blk_drewN ?_ _ | refine blk_drew ?_ | refine blk_alloc ?_ _)); refine blk_far ?_ NB534_535.out _; (with_reducible repeat (first | refine blk_drewN ?_ _ | refine blk_drew ?_ | refine blk_alloc ?_ _)); refine blk_far ?_ NB534_535.out _; (with_reducible repeat (first | refine blk_drewN ?_ _ | refine blk_drew ?_ | refine blk_alloc ?_ _)); refine blk_put (cs := #[.int .i64 t524, .int .i64 t525, .slice none 0 0]) ?_ 2 _ rfl; (with_reducible repeat (first | refine blk_drewN ?_ _ | refine blk_drew ?_ | refine blk_alloc ?_ _)); refine blk_put (cs := #[.int .i64 t524, .int .i64 0, .slice none 0 0]) ?_ 1 _ rfl; (with_reducible repeat (first | refine blk_drewN ?_ _ | refine blk_drew ?_ | refine blk_alloc ?_ _)); refine blk_put (cs := #[.int .i64 0, .int .i64 0, .slice none 0 0]) ?_ 0 _ rfl; exact bk_ BK534.out) hb); replace BK535 := aM (blk_below (g := gb535) (o := .cells #[.int .i64 t529, .int .i64 t530, .int .i64 t531, .bool t532, .int .i64 t533] 37 (0, 0)) (by (with_reducible repeat (first | refine blk_drewN ?_ _ | refine blk_drew ?_ | refine blk_alloc ?_ _)); refine blk_put (cs := #[.int .i64 t529, .int .i64 t530, .int .i64 t531, .bool t532, .int .i64 0]) ?_ 4 _ rfl; (with_reducible repeat (first | refine blk_drewN ?_ _ | refine blk_drew ?_ | refine blk_alloc ?_ _)); refine blk_put (cs := #[.int .i64 t529, .int .i64 t530, .int .i64 t531, .bool false, .int .i64 0]) ?_ 3 _ rfl; (with_reducible repeat (first | refine blk_drewN ?_ _ | refine blk_drew ?_ | refine blk_alloc ?_ _)); refine blk_put (cs := #[.int .i64 t529, .int .i64 t530, .int .i64 0, .bool false, .int .i64 0]) ?_ 2 _ rfl; (with_reducible repeat (first | refine blk_drewN ?_ _ | refine blk_drew ?_ | refine blk_alloc ?_ _)); refine blk_put (cs := #[.int .i64 t529, .int .i64 0, .int .i64 0, .bool false, .int .i64 0]) ?_ 1 _ rfl; (with_reducible repeat (first | refine blk_drewN ?_ _ | refine blk_drew ?_ | refine blk_alloc ?_ _)); refine blk_put (cs := #[.int .i64 0, .int .i64 0, .int .i64 0, .bool false, .int .i64 0]) ?_ 0 _ rfl; (with_reducible repeat (first | refine blk_drewN ?_ _ | refine blk_drew ?_ | refine blk_alloc ?_ _)); exact bk2_ BK535.out) hb); replace HB := bS_ hb; (try clear hb ho0); obtain ⟨hcz16_0, hcz16_1, hcz16_2, hfz16_0, hfz16_1, hfz16_2⟩ := b6_ BK534.out; have hcz17_0 := bc0_ BK535.out; have hcz17_1 := bc1_ BK535.out; have hcz17_2 := bc2_ BK535.out; have hcz17_3 := bc3_ BK535.out; have hcz17_4 := bc4_ BK535.out; have hfz17_0 := blk_frozen BK535.out 0; have hfz17_1 := blk_frozen BK535.out 1; have hfz17_2 := blk_frozen BK535.out 2; have hfz17_3 := blk_frozen BK535.out 3; have hfz17_4 := blk_frozen BK535.out 4) | (go_at_call 26; (with_reducible refine (spec_Choices.calls k t524 t525 _ _ t526 t529 t530 t531 t532 t533 t539 _ ?side1 ?side2 A6.out).mono ?_); (case side1 => exact qz25); (case side2 => exact (Kd.R_reads' HO528.out).2.1); rintro e w18 ⟨v540, rfl, ho0, hb⟩; have HO541 := aM (Kd.R_lower (Kd.R_new' (Kd.R_new' ho0 (Kd.R_lt (rr_ HO528.out))) (Kd.R_lt (rr_ HO538.out))) (below_size qz1)); replace HO528 := aM (Kd.R_elder' (rr_ HO528.out) (Kd.R_base ho0) hb); replace HO538 := aM (Kd.R_elder' (rr_ HO538.out) (Kd.R_base ho0) hb); replace BK534 := bB_ BK534 hb; replace BK535 := bB_ BK535 hb; replace HB := bS_ hb; (try clear hb ho0))); go_upto_region 6 with (first | (go_at_call 23; (with_reducible refine (laws_big.calls _ _ l0 false _ ?side1 ?side2 A2.out).mono ?_); (case side1 => exact qz13); (case side2 => exact HC0.out); rintro e w' ⟨rfl, ⟨nd, rfl⟩⟩; (try first | exact ⟨rfl, _, World.drewN_drewN _ _ _⟩ | exact ⟨rfl, _, Eq.trans (World.drewN_drewN _ _ _) (congrArg (World.drewN _) (Nat.add_assoc _ _ _))⟩)) | (go_at_call 32; (with_reducible refine (spec_DrawChoices.calls k _ _ l0 t524 t525 t526 t529 t530 t531 t532 t533 _ ?side1 ?side2 A4.out).mono ?_); (case side1 => exact qz13); (case side2 => exact HC0.out); rintro e w8 ⟨v527, rfl, ho0, hb⟩; have HO528 := aM (Kd.R_lower ho0 (below_size qz1)); replace HB := bS_ hb; (try clear hb ho0)) | ((with_reducible refine gate_dst (N := 3) rfl ?_); (try (refine gate_guard (by rfl) ?_; dsimp only)); refine bx_ 3 #[.int .i64 0, .int .i64 0, .slice none 0 0] 43 ?_; intro gb534 hg w9 hbox hb; replace HO528 := aM (Kd.R_below (rr_ HO528.out) hb); have BK534 := aM (hbox); have GW534 := aM (bz_ w hg qz1); have GE534 := GW534; replace HB := bS_ hb; clear hb hbox hg) | ((with_reducible refine gate_dst (N := 4) rfl ?_); (try (refine gate_guard (by rfl) ?_; dsimp only)); refine bx_ 4 #[.int .i64 0, .int .i64 0, .int .i64 0, .bool false, .int .i64 0] 37 ?_; intro gb535 hg w10 hbox hb; replace HO528 := aM (Kd.R_below (rr_ HO528.out) hb); have BK535 := aM (hbox); have GW535 := aM (bz_ w hg qz1); have GE535 := GW535; replace HB := bS_ hb; obtain ⟨NB534_535, NB535_534⟩ := nb_ hg (bk_ BK534.out); replace BK534 := bB_ BK534 hb; clear hb hbox hg; have hnb11 := NB534_535.out; have hnc11 := NB535_534.out; obtain ⟨hcz12_0, hcz12_1, hcz12_2, hfz12_0, hfz12_1, hfz12_2⟩ := b6_ BK534.out; obtain ⟨Ao13, co13, eo13⟩ := Kd.R_slice HO528.out; subst eo13; have hcz14_0 := bc0_ BK535.out; have hcz14_1 := bc1_ BK535.out; have hcz14_2 := bc2_ BK535.out; have hcz14_3 := bc3_ BK535.out; have hcz14_4 := bc4_ BK535.out; have hfz14_0 := blk_frozen BK535.out 0; have hfz14_1 := blk_frozen BK535.out 1; have hfz14_2 := blk_frozen BK535.out 2; have hfz14_3 := blk_frozen BK535.out 3; have hfz14_4 := blk_frozen BK535.out 4) | (go_at_call 29; (with_reducible refine (impl_Choices.calls k t524 t525 _ _ t526 t529 t530 t531 t532 t533 t536 _ ?side1 ?side2 A5.out).mono ?_); (case side1 => refine (Kd.R_reads' (e := 3) (base := w.heap.size) (ok := fun k_ => True) (n := t526.length) (c := co13) ?_).2.2; exact (by (with_reducible repeat (first | apply Kd.R_alloc | apply Kd.R_drewN | apply Kd.R_drew)); exact (Kd.R_mono (Kd.R_mono (Kd.R_far (p := ⟨gb535, 4, none⟩) (Kd.R_far (p := ⟨gb535, 3, none⟩) (Kd.R_far (p := ⟨gb535, 2, none⟩) (Kd.R_far (p := ⟨gb535, 1, none⟩) (Kd.R_far (p := ⟨gb535, 0, none⟩) (Kd.R_far (p := ⟨gb534, 2, none⟩) (Kd.R_far (p := ⟨gb534, 1, none⟩) (Kd.R_far (p := ⟨gb534, 0, none⟩) (Kd.R_types (Kd.R_types HO528.out BK534.out (by decide)) BK535.out (by decide)) (fun _ hk => hk.1.2) (.int .i64 t524)) (fun _ hk => hk.1.2) (.int .i64 t525)) (fun _ hk => hk.1.2) (.slice Ao13 t526.length co13)) (fun _ hk => hk.2) (.int .i64 t529)) (fun _ hk => hk.2) (.int .i64 t530)) (fun _ hk => hk.2) (.int .i64 t531)) (fun _ hk => hk.2) (.bool t532)) (fun _ hk => hk.2) (.int .i64 t533)) (fun _ h_ => h_.1)) (fun _ h_ => h_.1)))); (case side2 => exact (Kd.R_reads' HO528.out).2.1); rintro e w15 ⟨v537, rfl, ho0, hb⟩; have HO538 := aM (Kd.R_lower (Kd.R_new' ho0 (Kd.R_lt (by (with_reducible repeat (first | apply Kd.R_alloc | apply Kd.R_drewN | apply Kd.R_drew)); exact (Kd.R_mono (Kd.R_mono (Kd.R_far (p := ⟨gb535, 4, none⟩) (Kd.R_far (p := ⟨gb535, 3, none⟩) (Kd.R_far (p := ⟨gb535, 2, none⟩) (Kd.R_far (p := ⟨gb535, 1, none⟩) (Kd.R_far (p := ⟨gb535, 0, none⟩) (Kd.R_far (p := ⟨gb534, 2, none⟩) (Kd.R_far (p := ⟨gb534, 1, none⟩) (Kd.R_far (p := ⟨gb534, 0, none⟩) (Kd.R_types (Kd.R_types HO528.out BK534.out (by decide)) BK535.out (by decide)) (fun _ hk => hk.1.2) (.int .i64 t524)) (fun _ hk => hk.1.2) (.int .i64 t525)) (fun _ hk => hk.1.2) (.slice Ao13 t526.length co13)) (fun _ hk => hk.2) (.int .i64 t529)) (fun _ hk => hk.2) (.int .i64 t530)) (fun _ hk => hk.2) (.int .i64 t531)) (fun _ hk => hk.2) (.bool t532)) (fun _ hk => hk.2) (.int .i64 t533)) (fun _ h_ => h_.1)) (fun _ h_ => h_.1))))) (below_size qz1)); replace HO528 := aM (Kd.R_elder' (by (with_reducible repeat (first | apply Kd.R_alloc | apply Kd.R_drewN | apply Kd.R_drew)); exact (Kd.R_mono (Kd.R_mono (Kd.R_far (p := ⟨gb535, 4, none⟩) (Kd.R_far (p := ⟨gb535, 3, none⟩) (Kd.R_far (p := ⟨gb535, 2, none⟩) (Kd.R_far (p := ⟨gb535, 1, none⟩) (Kd.R_far (p := ⟨gb535, 0, none⟩) (Kd.R_far (p := ⟨gb534, 2, none⟩) (Kd.R_far (p := ⟨gb534, 1, none⟩) (Kd.R_far (p := ⟨gb534, 0, none⟩) (Kd.R_types (Kd.R_types HO528.out BK534.out (by decide)) BK535.out (by decide)) (fun _ hk => hk.1.2) (.int .i64 t524)) (fun _ hk => hk.1.2) (.int .i64 t525)) (fun _ hk => hk.1.2) (.slice Ao13 t526.length co13)) (fun _ hk => hk.2) (.int .i64 t529)) (fun _ hk => hk.2) (.int .i64 t530)) (fun _ hk => hk.2) (.int .i64 t531)) (fun _ hk => hk.2) (.bool t532)) (fun _ hk => hk.2) (.int .i64 t533)) (fun _ h_ => h_.1)) (fun _ h_ => h_.1))) (Kd.R_base ho0) hb); replace BK534 := aM (blk_below (g := gb534) (o := .cells #[.int .i64 t524, .int .i64 t525, .slice Ao13 t526.length co13] 43 (0, 0)) (by (with_reducible repeat (first | refine blk_drewN ?_ _ | refine blk_drew ?_ | refine blk_alloc ?_ _)); refine blk_far ?_ NB534_535.out _; (with_reducible repeat (first | refine blk_drewN ?_ _ | refine blk_drew ?_ | refine blk_alloc ?_ _)); refine blk_far ?_ NB534_535.out _; (with_reducible repeat (first | refine blk_drewN ?_ _ | refine blk_drew ?_ | refine blk_alloc ?_ _)); refine blk_far ?_ NB534_535.out _; (with_reducible repeat (first | refine blk_drewN ?_ _ | refine blk_drew ?_ | refine blk_alloc ?_ _)); refine blk_far ?_ NB534_535.out _; (with_reducible repeat (first | refine blk_drewN ?_ _ | refine blk_drew ?_ | refine blk_alloc ?_ _)); refine blk_far ?_ NB534_535.out _; (with_reducible repeat (first | refine blk_drewN ?_ _ | refine blk_drew ?_ | refine blk_alloc ?_ _)); refine blk_put (cs := #[.int .i64 t524, .int .i64 t525, .slice none 0 0]) ?_ 2 _ rfl; (with_reducible repeat (first | refine blk_drewN ?_ _ | refine blk_drew ?_ | refine blk_alloc ?_ _)); refine blk_put (cs := #[.int .i64 t524, .int .i64 0, .slice none 0 0]) ?_ 1 _ rfl; (with_reducible repeat (first | refine blk_drewN ?_ _ | refine blk_drew ?_ | refine blk_alloc ?_ _)); refine blk_put (cs := #[.int .i64 0, .int .i64 0, .slice none 0 0]) ?_ 0 _ rfl; exact bk_ BK534.out) hb); replace BK535 := aM (blk_below (g := gb535) (o := .cells #[.int .i64 t529, .int .i64 t530, .int .i64 t531, .bool t532, .int .i64 t533] 37 (0, 0)) (by (with_reducible repeat (first | refine blk_drewN ?_ _ | refine blk_drew ?_ | refine blk_alloc ?_ _)); refine blk_put (cs := #[.int .i64 t529, .int .i64 t530, .int .i64 t531, .bool t532, .int .i64 0]) ?_ 4 _ rfl; (with_reducible repeat (first | refine blk_drewN ?_ _ | refine blk_drew ?_ | refine blk_alloc ?_ _)); refine blk_put (cs := #[.int .i64 t529, .int .i64 t530, .int .i64 t531, .bool false, .int .i64 0]) ?_ 3 _ rfl; (with_reducible repeat (first | refine blk_drewN ?_ _ | refine blk_drew ?_ | refine blk_alloc ?_ _)); refine blk_put (cs := #[.int .i64 t529, .int .i64 t530, .int .i64 0, .bool false, .int .i64 0]) ?_ 2 _ rfl; (with_reducible repeat (first | refine blk_drewN ?_ _ | refine blk_drew ?_ | refine blk_alloc ?_ _)); refine blk_put (cs := #[.int .i64 t529, .int .i64 0, .int .i64 0, .bool false, .int .i64 0]) ?_ 1 _ rfl; (with_reducible repeat (first | refine blk_drewN ?_ _ | refine blk_drew ?_ | refine blk_alloc ?_ _)); refine blk_put (cs := #[.int .i64 0, .int .i64 0, .int .i64 0, .bool false, .int .i64 0]) ?_ 0 _ rfl; (with_reducible repeat (first | refine blk_drewN ?_ _ | refine blk_drew ?_ | refine blk_alloc ?_ _)); exact bk2_ BK535.out) hb); replace HB := bS_ hb; (try clear hb ho0); obtain ⟨hcz16_0, hcz16_1, hcz16_2, hfz16_0, hfz16_1, hfz16_2⟩ := b6_ BK534.out; have hcz17_0 := bc0_ BK535.out; have hcz17_1 := bc1_ BK535.out; have hcz17_2 := bc2_ BK535.out; have hcz17_3 := bc3_ BK535.out; have hcz17_4 := bc4_ BK535.out; have hfz17_0 := blk_frozen BK535.out 0; have hfz17_1 := blk_frozen BK535.out 1; have hfz17_2 := blk_frozen BK535.out 2; have hfz17_3 := blk_frozen BK535.out 3; have hfz17_4 := blk_frozen BK535.out 4) | (go_at_call 26; (with_reducible refine (spec_Choices.calls k t524 t525 _ _ t526 t529 t530 t531 t532 t533 t539 _ ?side1 ?side2 A6.out).mono ?_); (case side1 => exact qz25); (case side2 => exact (Kd.R_reads' HO528.out).2.1); rintro e w18 ⟨v540, rfl, ho0, hb⟩; have HO541 := aM (Kd.R_lower (Kd.R_new' (Kd.R_new' ho0 (Kd.R_lt (rr_ HO528.out))) (Kd.R_lt (rr_ HO538.out))) (below_size qz1)); replace HO528 := aM (Kd.R_elder' (rr_ HO528.out) (Kd.R_base ho0) hb); replace HO538 := aM (Kd.R_elder' (rr_ HO538.out) (Kd.R_base ho0) hb); replace BK534 := bB_ BK534 hb; replace BK535 := bB_ BK535 hb; replace HB := bS_ hb; (try clear hb ho0))))
 (try simp only [Act.put, List.setIfInBounds_toArray, List.set_cons_zero, List.set_cons_succ])
 go_cut [32] (fun v32 wc => ∃ (kq : Nat) (x32_6 : Bool), v32 = .bool x32_6 ∧ Aside0 (laws_FnChosen.j0 kq t536 t539 x32_6 t524 t525 t526 t529 t530 t531 t532 t533 = some r) ∧ Aside0 (kq ≤ k) ∧ Aside0 (Kd.R (Kd.int .i64) 3 wc w.heap.size (fun k_ => some k_ ≠ (v540 : Value).ownBlock ∧ some k_ ≠ ((.slice Ao13 t526.length co13) : Value).ownBlock) v537 t536) ∧ Aside0 (Kd.R (Kd.int .i64) 3 wc w.heap.size (fun k_ => some k_ ≠ (v537 : Value).ownBlock ∧ some k_ ≠ ((.slice Ao13 t526.length co13) : Value).ownBlock) v540 t539) ∧ Aside0 (Kd.R (Kd.int .i64) 3 wc w.heap.size (fun k_ => some k_ ≠ (v537 : Value).ownBlock ∧ some k_ ≠ (v540 : Value).ownBlock) (.slice Ao13 t526.length co13) t526) ∧ Aside0 (wc.heap[gb534]? = some (.cells #[.int .i64 t524, .int .i64 t525, (.slice Ao13 t526.length co13)] 43 (0, 0))) ∧ Aside0 (wc.heap[gb535]? = some (.cells #[.int .i64 t529, .int .i64 t530, .int .i64 t531, .bool t532, .int .i64 t533] 37 (0, 0))) ∧ Aside0 (Below w.heap.size w wc))
 case first =>
  have H := HC7.out
  clear HC7
  replace H := Option.bind_eq_some_iff.mp H
  obtain ⟨t542, A190, H⟩ := H
  replace H : (if t542 = true then (laws_FnChosen.j0 k t536 t539 ((t536.length : Int) == 0) t524 t525 t526 t529 t530 t531 t532 t533) else (laws_FnChosen.j0 k t536 t539 true t524 t525 t526 t529 t530 t531 t532 t533)) = some r := H
  have A19 := aM A190
  clear A190
  by_cases c20 : t542 = true
  {
  subst c20
  rw [if_pos rfl] at H
  have H' := aM H
  clear H
  obtain ⟨Ao21, co21, eo21⟩ := Kd.R_slice HO538.out
  subst eo21
  obtain ⟨Ao22, co22, eo22⟩ := Kd.R_slice HO541.out
  subst eo22
  go_wp2_with (first | (go_at_call 33; (with_reducible refine (laws_sameInts.calls k _ _ t536 _ _ t539 true _ ?side1 ?side2 ?side3 ?side4 A19.out).mono ?_); (case side1 => exact qz18); (case side2 => exact (Kd.R_reads' HO538.out).2.1); (case side3 => exact qz19); (case side4 => exact (Kd.R_reads' HO541.out).2.1); rintro e w' ⟨rfl, ⟨nd, rfl⟩⟩; (try first | exact ⟨rfl, _, World.drewN_drewN _ _ _⟩ | exact ⟨rfl, _, Eq.trans (World.drewN_drewN _ _ _) (congrArg (World.drewN _) (Nat.add_assoc _ _ _))⟩)))
  repeat (go_quiet (first | (go_at_call 33; (with_reducible refine (laws_sameInts.calls k _ _ t536 _ _ t539 true _ ?side1 ?side2 ?side3 ?side4 A19.out).mono ?_); (case side1 => exact qz18); (case side2 => exact (Kd.R_reads' HO538.out).2.1); (case side3 => exact qz19); (case side4 => exact (Kd.R_reads' HO541.out).2.1); rintro e w' ⟨rfl, ⟨nd, rfl⟩⟩; (try first | exact ⟨rfl, _, World.drewN_drewN _ _ _⟩ | exact ⟨rfl, _, Eq.trans (World.drewN_drewN _ _ _) (congrArg (World.drewN _) (Nat.add_assoc _ _ _))⟩))); try go_wp2_with (first | (go_at_call 33; (with_reducible refine (laws_sameInts.calls k _ _ t536 _ _ t539 true _ ?side1 ?side2 ?side3 ?side4 A19.out).mono ?_); (case side1 => exact qz18); (case side2 => exact (Kd.R_reads' HO538.out).2.1); (case side3 => exact qz19); (case side4 => exact (Kd.R_reads' HO541.out).2.1); rintro e w' ⟨rfl, ⟨nd, rfl⟩⟩; (try first | exact ⟨rfl, _, World.drewN_drewN _ _ _⟩ | exact ⟨rfl, _, Eq.trans (World.drewN_drewN _ _ _) (congrArg (World.drewN _) (Nat.add_assoc _ _ _))⟩))))
  go_meet
  case rel => exact ⟨_, (((t536.length : Int) == 0)), qz8, H', ⟨by first | omega | exact Nat.le_refl _⟩, ⟨by (with_reducible repeat (first | apply Kd.R_alloc | apply Kd.R_drewN | apply Kd.R_drew)); exact Kd.R_mono HO538.out (fun _ hk => ⟨hk.2, hk.1.2⟩)⟩, ⟨by (with_reducible repeat (first | apply Kd.R_alloc | apply Kd.R_drewN | apply Kd.R_drew)); exact Kd.R_mono HO541.out (fun _ hk => ⟨hk.2, hk.1.2⟩)⟩, ⟨by (with_reducible repeat (first | apply Kd.R_alloc | apply Kd.R_drewN | apply Kd.R_drew)); exact Kd.R_mono HO528.out (fun _ hk => ⟨hk.1.2, hk.2⟩)⟩, ⟨bk_ BK534.out⟩, ⟨bk_ BK535.out⟩, ⟨qz1⟩⟩
  }
  {
  replace c20 := Bool.eq_false_iff.mpr c20
  subst c20
  rw [if_neg (show ¬ (false = true) by decide)] at H
  have H' := aM H
  clear H
  obtain ⟨Ao23, co23, eo23⟩ := Kd.R_slice HO538.out
  subst eo23
  obtain ⟨Ao24, co24, eo24⟩ := Kd.R_slice HO541.out
  subst eo24
  go_wp2_with (first | (go_at_call 33; (with_reducible refine (laws_sameInts.calls k _ _ t536 _ _ t539 false _ ?side1 ?side2 ?side3 ?side4 A19.out).mono ?_); (case side1 => exact qz18); (case side2 => exact (Kd.R_reads' HO538.out).2.1); (case side3 => exact qz19); (case side4 => exact (Kd.R_reads' HO541.out).2.1); rintro e w' ⟨rfl, ⟨nd, rfl⟩⟩; (try first | exact ⟨rfl, _, World.drewN_drewN _ _ _⟩ | exact ⟨rfl, _, Eq.trans (World.drewN_drewN _ _ _) (congrArg (World.drewN _) (Nat.add_assoc _ _ _))⟩)))
  repeat (go_quiet (first | (go_at_call 33; (with_reducible refine (laws_sameInts.calls k _ _ t536 _ _ t539 false _ ?side1 ?side2 ?side3 ?side4 A19.out).mono ?_); (case side1 => exact qz18); (case side2 => exact (Kd.R_reads' HO538.out).2.1); (case side3 => exact qz19); (case side4 => exact (Kd.R_reads' HO541.out).2.1); rintro e w' ⟨rfl, ⟨nd, rfl⟩⟩; (try first | exact ⟨rfl, _, World.drewN_drewN _ _ _⟩ | exact ⟨rfl, _, Eq.trans (World.drewN_drewN _ _ _) (congrArg (World.drewN _) (Nat.add_assoc _ _ _))⟩))); try go_wp2_with (first | (go_at_call 33; (with_reducible refine (laws_sameInts.calls k _ _ t536 _ _ t539 false _ ?side1 ?side2 ?side3 ?side4 A19.out).mono ?_); (case side1 => exact qz18); (case side2 => exact (Kd.R_reads' HO538.out).2.1); (case side3 => exact qz19); (case side4 => exact (Kd.R_reads' HO541.out).2.1); rintro e w' ⟨rfl, ⟨nd, rfl⟩⟩; (try first | exact ⟨rfl, _, World.drewN_drewN _ _ _⟩ | exact ⟨rfl, _, Eq.trans (World.drewN_drewN _ _ _) (congrArg (World.drewN _) (Nat.add_assoc _ _ _))⟩))))
  go_meet
  case rel => exact ⟨_, (true), qz8, H', ⟨by first | omega | exact Nat.le_refl _⟩, ⟨by (with_reducible repeat (first | apply Kd.R_alloc | apply Kd.R_drewN | apply Kd.R_drew)); exact Kd.R_mono HO538.out (fun _ hk => ⟨hk.2, hk.1.2⟩)⟩, ⟨by (with_reducible repeat (first | apply Kd.R_alloc | apply Kd.R_drewN | apply Kd.R_drew)); exact Kd.R_mono HO541.out (fun _ hk => ⟨hk.2, hk.1.2⟩)⟩, ⟨by (with_reducible repeat (first | apply Kd.R_alloc | apply Kd.R_drewN | apply Kd.R_drew)); exact Kd.R_mono HO528.out (fun _ hk => ⟨hk.1.2, hk.2⟩)⟩, ⟨bk_ BK534.out⟩, ⟨bk_ BK535.out⟩, ⟨qz1⟩⟩
  }
 case rest =>
  clear HC7
  try clear c1
  try clear c2
  try clear p2
  try clear c3
  try clear c6
  try clear c11
  try clear c20
  try clear hcz12_0 hcz12_1 hcz12_2 hfz12_0 hfz12_1 hfz12_2
  try clear hcz14_0 hcz14_1 hcz14_2 hcz14_3 hcz14_4 hfz14_0 hfz14_1 hfz14_2 hfz14_3 hfz14_4
  try clear hcz16_0 hcz16_1 hcz16_2 hfz16_0 hfz16_1 hfz16_2
  try clear hcz17_0 hcz17_1 hcz17_2 hcz17_3 hcz17_4 hfz17_0 hfz17_1 hfz17_2 hfz17_3 hfz17_4
  obtain ⟨kq, x32_6, rfl, HA, HJ6, HO_5, HO_6, HO_535002, BK534, BK535, HB⟩ := hcut
  cases kq with
  | zero => exact absurd HA.out (by simp [laws_FnChosen.j0])
  | succ kj6 =>
   have H := HA.out
   clear HA
   simp only [laws_FnChosen.j0] at H
   by_cases c25 : x32_6 = true
   {
   subst c25
   rw [if_pos rfl] at H
   replace H := Option.bind_eq_some_iff.mp H
   obtain ⟨t543, A260, H⟩ := H
   replace H : (some t543) = some r := H
   have A26 := aM A260
   clear A260
   obtain rfl := Option.some.inj H
   simp only [Option.some.injEq, Prod.mk.injEq] at H
   obtain ⟨rfl⟩ := H
   obtain ⟨Ao27, co27, eo27⟩ := Kd.R_slice HO_5.out
   subst eo27
   obtain ⟨Ao28, co28, eo28⟩ := Kd.R_slice HO_6.out
   subst eo28
   go_wp2_with (first | (go_at_call 33; (with_reducible refine (laws_sameInts.calls kj6 _ _ t536 _ _ t539 t543 _ ?side1 ?side2 ?side3 ?side4 A26.out).mono ?_); (case side1 => exact qz20); (case side2 => exact (Kd.R_reads' HO_5.out).2.1); (case side3 => exact qz26); (case side4 => exact (Kd.R_reads' HO_6.out).2.1); rintro e w' ⟨rfl, ⟨nd, rfl⟩⟩; (try first | exact ⟨rfl, _, World.drewN_drewN _ _ _⟩ | exact ⟨rfl, _, Eq.trans (World.drewN_drewN _ _ _) (congrArg (World.drewN _) (Nat.add_assoc _ _ _))⟩)))
   repeat (go_quiet (first | (go_at_call 33; (with_reducible refine (laws_sameInts.calls kj6 _ _ t536 _ _ t539 t543 _ ?side1 ?side2 ?side3 ?side4 A26.out).mono ?_); (case side1 => exact qz20); (case side2 => exact (Kd.R_reads' HO_5.out).2.1); (case side3 => exact qz26); (case side4 => exact (Kd.R_reads' HO_6.out).2.1); rintro e w' ⟨rfl, ⟨nd, rfl⟩⟩; (try first | exact ⟨rfl, _, World.drewN_drewN _ _ _⟩ | exact ⟨rfl, _, Eq.trans (World.drewN_drewN _ _ _) (congrArg (World.drewN _) (Nat.add_assoc _ _ _))⟩))); try go_wp2_with (first | (go_at_call 33; (with_reducible refine (laws_sameInts.calls kj6 _ _ t536 _ _ t539 t543 _ ?side1 ?side2 ?side3 ?side4 A26.out).mono ?_); (case side1 => exact qz20); (case side2 => exact (Kd.R_reads' HO_5.out).2.1); (case side3 => exact qz26); (case side4 => exact (Kd.R_reads' HO_6.out).2.1); rintro e w' ⟨rfl, ⟨nd, rfl⟩⟩; (try first | exact ⟨rfl, _, World.drewN_drewN _ _ _⟩ | exact ⟨rfl, _, Eq.trans (World.drewN_drewN _ _ _) (congrArg (World.drewN _) (Nat.add_assoc _ _ _))⟩))))
   go_ret
   exact ⟨qzw, qz1⟩
   }
   {
   replace c25 := Bool.eq_false_iff.mpr c25
   subst c25
   rw [if_neg (show ¬ (false = true) by decide)] at H
   replace H := Option.bind_eq_some_iff.mp H
   obtain ⟨t544, A290, H⟩ := H
   replace H : (laws_FnChosen.l0 kj6 t536 t544 0 t524 t525 t526 t529 t530 t531 t532 t533) = some r := H
   have A29 := aM A290
   clear A290
   have H' := aM H
   clear H
   have hnb30 := NB534_535.out
   have hnc30 := NB535_534.out
   obtain ⟨hcz31_0, hcz31_1, hcz31_2, hfz31_0, hfz31_1, hfz31_2⟩ := b6_ BK534.out
   have hcz32_0 := bc0_ BK535.out
   have hcz32_1 := bc1_ BK535.out
   have hcz32_2 := bc2_ BK535.out
   have hcz32_3 := bc3_ BK535.out
   have hcz32_4 := bc4_ BK535.out
   have hfz32_0 := blk_frozen BK535.out 0
   have hfz32_1 := blk_frozen BK535.out 1
   have hfz32_2 := blk_frozen BK535.out 2
   have hfz32_3 := blk_frozen BK535.out 3
   have hfz32_4 := blk_frozen BK535.out 4
   go_wp2_with (first | (go_at_call 34; (with_reducible refine (impl_Near.calls kj6 t524 t525 _ _ t526 t530 false t544 _ ?side1 ?side2 A29.out).mono ?_); (case side1 => exact qz16); (case side2 => exact (Kd.R_reads' HO_535002.out).2.1); rintro e w33 ⟨v545, rfl, ho0, hb⟩; have HO546 := aM (Kd.R_lower (Kd.R_new' (Kd.R_new' (Kd.R_new' ho0 (Kd.R_lt (rr_ HO_5.out))) (Kd.R_lt (rr_ HO_6.out))) (Kd.R_lt (rr_ HO_535002.out))) (below_size qz1)); replace HO_5 := aM (Kd.R_elder' (rr_ HO_5.out) (Kd.R_base ho0) hb); replace HO_6 := aM (Kd.R_elder' (rr_ HO_6.out) (Kd.R_base ho0) hb); replace HO_535002 := aM (Kd.R_elder' (rr_ HO_535002.out) (Kd.R_base ho0) hb); replace BK534 := bB_ BK534 hb; replace BK535 := bB_ BK535 hb; replace HB := bS_ hb; (try clear hb ho0)))
   repeat (go_quiet (first | (go_at_call 34; (with_reducible refine (impl_Near.calls kj6 t524 t525 _ _ t526 t530 false t544 _ ?side1 ?side2 A29.out).mono ?_); (case side1 => exact qz16); (case side2 => exact (Kd.R_reads' HO_535002.out).2.1); rintro e w33 ⟨v545, rfl, ho0, hb⟩; have HO546 := aM (Kd.R_lower (Kd.R_new' (Kd.R_new' (Kd.R_new' ho0 (Kd.R_lt (rr_ HO_5.out))) (Kd.R_lt (rr_ HO_6.out))) (Kd.R_lt (rr_ HO_535002.out))) (below_size qz1)); replace HO_5 := aM (Kd.R_elder' (rr_ HO_5.out) (Kd.R_base ho0) hb); replace HO_6 := aM (Kd.R_elder' (rr_ HO_6.out) (Kd.R_base ho0) hb); replace HO_535002 := aM (Kd.R_elder' (rr_ HO_535002.out) (Kd.R_base ho0) hb); replace BK534 := bB_ BK534 hb; replace BK535 := bB_ BK535 hb; replace HB := bS_ hb; (try clear hb ho0))); try go_wp2_with (first | (go_at_call 34; (with_reducible refine (impl_Near.calls kj6 t524 t525 _ _ t526 t530 false t544 _ ?side1 ?side2 A29.out).mono ?_); (case side1 => exact qz16); (case side2 => exact (Kd.R_reads' HO_535002.out).2.1); rintro e w33 ⟨v545, rfl, ho0, hb⟩; have HO546 := aM (Kd.R_lower (Kd.R_new' (Kd.R_new' (Kd.R_new' ho0 (Kd.R_lt (rr_ HO_5.out))) (Kd.R_lt (rr_ HO_6.out))) (Kd.R_lt (rr_ HO_535002.out))) (below_size qz1)); replace HO_5 := aM (Kd.R_elder' (rr_ HO_5.out) (Kd.R_base ho0) hb); replace HO_6 := aM (Kd.R_elder' (rr_ HO_6.out) (Kd.R_base ho0) hb); replace HO_535002 := aM (Kd.R_elder' (rr_ HO_535002.out) (Kd.R_base ho0) hb); replace BK534 := bB_ BK534 hb; replace BK535 := bB_ BK535 hb; replace HB := bS_ hb; (try clear hb ho0))))
   go_loopg [8] kj6 (fun kq v8 w' => ∃ (x8_2 : Int), v8 = .int .i64 x8_2 ∧ Aside0 (laws_FnChosen.l0 kq t536 t544 x8_2 t524 t525 t526 t529 t530 t531 t532 t533 = some r) ∧ Aside0 (kq ≤ kj6) ∧ Aside0 (Kd.R (Kd.int .i64) 3 w' w.heap.size (fun k_ => some k_ ≠ (v545 : Value).ownBlock ∧ some k_ ≠ ((.slice Ao13 t526.length co13) : Value).ownBlock) v537 t536) ∧ Aside0 (Kd.R (Kd.int .i64) 3 w' w.heap.size (fun k_ => some k_ ≠ (v537 : Value).ownBlock ∧ some k_ ≠ ((.slice Ao13 t526.length co13) : Value).ownBlock) v545 t544) ∧ Aside0 (Kd.R (Kd.int .i64) 3 w' w.heap.size (fun k_ => some k_ ≠ (v537 : Value).ownBlock ∧ some k_ ≠ (v545 : Value).ownBlock) (.slice Ao13 t526.length co13) t526) ∧ Aside0 (w'.heap[gb534]? = some (.cells #[.int .i64 t524, .int .i64 t525, (.slice Ao13 t526.length co13)] 43 (0, 0))) ∧ Aside0 (w'.heap[gb535]? = some (.cells #[.int .i64 t529, .int .i64 t530, .int .i64 t531, .bool t532, .int .i64 t533] 37 (0, 0))) ∧ Aside0 (Below w.heap.size w w'))
   case atStart => exact ⟨(0), qz8, H', ⟨Nat.le_refl _⟩, ⟨by (with_reducible repeat (first | apply Kd.R_alloc | apply Kd.R_drewN | apply Kd.R_drew)); exact Kd.R_mono HO_5.out (fun _ hk => ⟨hk.2, hk.1.2⟩)⟩, ⟨by (with_reducible repeat (first | apply Kd.R_alloc | apply Kd.R_drewN | apply Kd.R_drew)); exact Kd.R_mono HO546.out (fun _ hk => ⟨hk.1.1.2, hk.2⟩)⟩, ⟨by (with_reducible repeat (first | apply Kd.R_alloc | apply Kd.R_drewN | apply Kd.R_drew)); exact Kd.R_mono HO_535002.out (fun _ hk => ⟨hk.1.1, hk.2⟩)⟩, ⟨bk_ BK534.out⟩, ⟨bk_ BK535.out⟩, ⟨qz1⟩⟩
   case round =>
    clear H'
    try clear c1
    try clear c2
    try clear p2
    try clear c3
    try clear c6
    try clear c11
    try clear c20
    try clear c25
    try clear c30
    try clear hcz12_0 hcz12_1 hcz12_2 hfz12_0 hfz12_1 hfz12_2
    try clear hcz14_0 hcz14_1 hcz14_2 hcz14_3 hcz14_4 hfz14_0 hfz14_1 hfz14_2 hfz14_3 hfz14_4
    try clear hcz16_0 hcz16_1 hcz16_2 hfz16_0 hfz16_1 hfz16_2
    try clear hcz17_0 hcz17_1 hcz17_2 hcz17_3 hcz17_4 hfz17_0 hfz17_1 hfz17_2 hfz17_3 hfz17_4
    try clear hcz31_0 hcz31_1 hcz31_2 hfz31_0 hfz31_1 hfz31_2
    try clear hcz32_0 hcz32_1 hcz32_2 hcz32_3 hcz32_4 hfz32_0 hfz32_1 hfz32_2 hfz32_3 hfz32_4
    obtain ⟨x8_2, rfl, HA, HK2, HO_5, HO_7, HO_535002, BK534, BK535, HB⟩ := hrel
    cases gk with
    | zero => exact absurd HA.out (by simp [laws_FnChosen.l0])
    | succ k2 =>
     have H := HA.out
     clear HA
     simp only [laws_FnChosen.l0] at H
     by_cases c34 : x8_2 < (t536.length : Int)
     {
     rw [if_pos c34] at H
     have c34b0 := decide_eq_true c34
     clear c34
     by_cases c35 : 0 ≤ x8_2
     {
     rw [if_pos c35] at H
     have c35b0 := decide_eq_true c35
     clear c35
     by_cases c36 : (rd t536 x8_2) = t530
     {
     rw [if_pos c36] at H
     have c36b0 := beq_iff_eq.mpr c36
     have c36b1 := bne_eq_false_iff_eq.mpr c36
     clear c36
     have H' := aM H
     clear H
     obtain ⟨Ao37, co37, eo37⟩ := Kd.R_slice HO_5.out
     subst eo37
     have p547 : 0 ≤ (x8_2 : Int) := dt_
     have q547 : x8_2 < (t536.length : Int) := dt_
     obtain ⟨ad547, e547, hx547_0⟩ := Kd.at_int (Kd.R_reads' HO_5.out).2.2 x8_2 p547 q547
     cases e547
     replace p547 := eq_true p547
     replace q547 := eq_true q547
     have hnb38 := NB535_534.out
     have hnc38 := NB534_535.out
     have hcz39_0 := bc0_ BK535.out
     have hcz39_1 := bc1_ BK535.out
     have hcz39_2 := bc2_ BK535.out
     have hcz39_3 := bc3_ BK535.out
     have hcz39_4 := bc4_ BK535.out
     have hfz39_0 := blk_frozen BK535.out 0
     have hfz39_1 := blk_frozen BK535.out 1
     have hfz39_2 := blk_frozen BK535.out 2
     have hfz39_3 := blk_frozen BK535.out 3
     have hfz39_4 := blk_frozen BK535.out 4
     go_wp2
     repeat (go_quiet (fail); try go_wp2)
     go_roundg k2
     case measure => have := HJ6.out; have := HK2.out; omega
     case rel => exact ⟨(wrap64 (x8_2 + 1)), qz8, H', ⟨by have := HJ6.out; have := HK2.out; omega⟩, ⟨rm_ HO_5.out⟩, ⟨rm_ HO_7.out⟩, ⟨rm_ HO_535002.out⟩, ⟨bk_ BK534.out⟩, ⟨bk_ BK535.out⟩, ⟨qz1⟩⟩
     }
     {
     rw [if_neg c36] at H
     have c36b0 := beq_eq_false_iff_ne.mpr c36
     have c36b1 := bne_iff_ne.mpr c36
     replace H := Option.bind_eq_some_iff.mp H
     obtain ⟨t549, A400, H⟩ := H
     replace H : (if t549 = true then (laws_FnChosen.l0 k2 t536 t544 (wrap64 (x8_2 + 1)) t524 t525 t526 t529 t530 t531 t532 t533) else (some false)) = some r := H
     have A40 := aM A400
     clear A400
     by_cases c41 : t549 = true
     {
     subst c41
     rw [if_pos rfl] at H
     have H' := aM H
     clear H
     obtain ⟨Ao42, co42, eo42⟩ := Kd.R_slice HO_5.out
     subst eo42
     have p547 : 0 ≤ (x8_2 : Int) := dt_
     have q547 : x8_2 < (t536.length : Int) := dt_
     obtain ⟨ad547, e547, hx547_0⟩ := Kd.at_int (Kd.R_reads' HO_5.out).2.2 x8_2 p547 q547
     cases e547
     replace p547 := eq_true p547
     replace q547 := eq_true q547
     have hnb43 := NB535_534.out
     have hnc43 := NB534_535.out
     have hcz44_0 := bc0_ BK535.out
     have hcz44_1 := bc1_ BK535.out
     have hcz44_2 := bc2_ BK535.out
     have hcz44_3 := bc3_ BK535.out
     have hcz44_4 := bc4_ BK535.out
     have hfz44_0 := blk_frozen BK535.out 0
     have hfz44_1 := blk_frozen BK535.out 1
     have hfz44_2 := blk_frozen BK535.out 2
     have hfz44_3 := blk_frozen BK535.out 3
     have hfz44_4 := blk_frozen BK535.out 4
     have p548 : 0 ≤ (x8_2 : Int) := dt_
     have q548 : x8_2 < (t536.length : Int) := dt_
     obtain ⟨ad548, e548, hx548_0⟩ := Kd.at_int (Kd.R_reads' HO_5.out).2.2 x8_2 p548 q548
     obtain rfl : ad547 = ad548 := (by injection e548)
     replace p548 := eq_true p548
     replace q548 := eq_true q548
     obtain ⟨Ao45, co45, eo45⟩ := Kd.R_slice HO_7.out
     subst eo45
     go_wp2_with (first | (go_at_call 35; (with_reducible refine (laws_among.calls k2 _ _ t544 (rd t536 x8_2) true _ ?side1 ?side2 A40.out).mono ?_); (case side1 => exact qz27); (case side2 => exact (Kd.R_reads' HO_7.out).2.1); rintro e w' ⟨rfl, ⟨nd, rfl⟩⟩; (try first | exact ⟨rfl, _, World.drewN_drewN _ _ _⟩ | exact ⟨rfl, _, Eq.trans (World.drewN_drewN _ _ _) (congrArg (World.drewN _) (Nat.add_assoc _ _ _))⟩)))
     repeat (go_quiet (first | (go_at_call 35; (with_reducible refine (laws_among.calls k2 _ _ t544 (rd t536 x8_2) true _ ?side1 ?side2 A40.out).mono ?_); (case side1 => exact qz27); (case side2 => exact (Kd.R_reads' HO_7.out).2.1); rintro e w' ⟨rfl, ⟨nd, rfl⟩⟩; (try first | exact ⟨rfl, _, World.drewN_drewN _ _ _⟩ | exact ⟨rfl, _, Eq.trans (World.drewN_drewN _ _ _) (congrArg (World.drewN _) (Nat.add_assoc _ _ _))⟩))); try go_wp2_with (first | (go_at_call 35; (with_reducible refine (laws_among.calls k2 _ _ t544 (rd t536 x8_2) true _ ?side1 ?side2 A40.out).mono ?_); (case side1 => exact qz27); (case side2 => exact (Kd.R_reads' HO_7.out).2.1); rintro e w' ⟨rfl, ⟨nd, rfl⟩⟩; (try first | exact ⟨rfl, _, World.drewN_drewN _ _ _⟩ | exact ⟨rfl, _, Eq.trans (World.drewN_drewN _ _ _) (congrArg (World.drewN _) (Nat.add_assoc _ _ _))⟩))))
     go_roundg k2
     case measure => have := HJ6.out; have := HK2.out; omega
     case rel => exact ⟨(wrap64 (x8_2 + 1)), qz8, H', ⟨by have := HJ6.out; have := HK2.out; omega⟩, ⟨rm_ HO_5.out⟩, ⟨rm_ HO_7.out⟩, ⟨rm_ HO_535002.out⟩, ⟨bk_ BK534.out⟩, ⟨bk_ BK535.out⟩, ⟨qz1⟩⟩
     }
     {
     replace c41 := Bool.eq_false_iff.mpr c41
     subst c41
     rw [if_neg (show ¬ (false = true) by decide)] at H
     obtain rfl := Option.some.inj H
     exact absurd HTR_.out (by decide)
     }
     }
     }
     {
     exact an_ c35 H
     }
     }
     {
     rw [if_neg c34] at H
     have c34b0 := decide_eq_false c34
     clear c34
     by_cases c46 : t531 = (-1)
     {
     rw [if_pos c46] at H
     have c46b0 := beq_iff_eq.mpr c46
     have c46b1 := bne_eq_false_iff_eq.mpr c46
     clear c46
     by_cases c47 : 0 < (t536.length : Int)
     {
     rw [if_pos c47] at H
     have c47b0 := decide_eq_true c47
     have c47b1 : decide (0 < t536.length) = true := decide_eq_true (by omega)
     clear c47
     by_cases c48 : (rd t536 0) = t530
     {
     rw [if_pos c48] at H
     have c48b0 := beq_iff_eq.mpr c48
     have c48b1 := bne_eq_false_iff_eq.mpr c48
     clear c48
     obtain rfl := Option.some.inj H
     simp only [Option.some.injEq, Prod.mk.injEq] at H
     obtain ⟨rfl⟩ := H
     obtain ⟨Ao49, co49, eo49⟩ := Kd.R_slice HO_5.out
     subst eo49
     have hnb50 := NB535_534.out
     have hnc50 := NB534_535.out
     have hcz51_0 := bc0_ BK535.out
     have hcz51_1 := bc1_ BK535.out
     have hcz51_2 := bc2_ BK535.out
     have hcz51_3 := bc3_ BK535.out
     have hcz51_4 := bc4_ BK535.out
     have hfz51_0 := blk_frozen BK535.out 0
     have hfz51_1 := blk_frozen BK535.out 1
     have hfz51_2 := blk_frozen BK535.out 2
     have hfz51_3 := blk_frozen BK535.out 3
     have hfz51_4 := blk_frozen BK535.out 4
     have p550 : 0 ≤ (0 : Int) := (by omega)
     have q550 : 0 < (t536.length : Int) := dt_
     obtain ⟨ad550, e550, hx550_0⟩ := Kd.at_int (Kd.R_reads' HO_5.out).2.2 0 p550 q550
     cases e550
     have qi550 : (0 < t536.length) = True := eq_true (by omega)
     (try rw [show ((0 : Int)).toNat = 0 from rfl] at hx550_0)
     (try rw [Addr.add_zero'] at hx550_0)
     replace p550 := eq_true p550
     replace q550 := eq_true q550
     go_wp2
     repeat (go_quiet (fail); try go_wp2)
     go_ret
     exact ⟨qzw, qz1⟩
     }
     {
     rw [if_neg c48] at H
     have c48b0 := beq_eq_false_iff_ne.mpr c48
     have c48b1 := bne_iff_ne.mpr c48
     obtain rfl := Option.some.inj H
     exact absurd HTR_.out (by decide)
     }
     }
     {
     exact an_ c47 H
     }
     }
     {
     rw [if_neg c46] at H
     have c46b0 := beq_eq_false_iff_ne.mpr c46
     have c46b1 := bne_iff_ne.mpr c46
     replace H := Option.bind_eq_some_iff.mp H
     obtain ⟨t551, A520, H⟩ := H
     replace H : (laws_FnChosen.l1 k2 t536 t551 1 t529 t530 t531 t532 t533) = some r := H
     have A52 := aM A520
     clear A520
     have H' := aM H
     clear H
     obtain ⟨Ao53, co53, eo53⟩ := Kd.R_slice HO_5.out
     subst eo53
     have hnb54 := NB535_534.out
     have hnc54 := NB534_535.out
     have hcz55_0 := bc0_ BK535.out
     have hcz55_1 := bc1_ BK535.out
     have hcz55_2 := bc2_ BK535.out
     have hcz55_3 := bc3_ BK535.out
     have hcz55_4 := bc4_ BK535.out
     have hfz55_0 := blk_frozen BK535.out 0
     have hfz55_1 := blk_frozen BK535.out 1
     have hfz55_2 := blk_frozen BK535.out 2
     have hfz55_3 := blk_frozen BK535.out 3
     have hfz55_4 := blk_frozen BK535.out 4
     obtain ⟨hcz56_0, hcz56_1, hcz56_2, hfz56_0, hfz56_1, hfz56_2⟩ := b6_ BK534.out
     go_wp2_with (first | (go_at_call 36; (with_reducible refine (impl_Field.calls k2 t524 t525 _ _ t526 t531 t532 t551 _ ?side1 ?side2 A52.out).mono ?_); (case side1 => exact qz16); (case side2 => exact (Kd.R_reads' HO_535002.out).2.1); rintro e w57 ⟨v552, rfl, ho0, hb⟩; have HO553 := aM (Kd.R_lower (Kd.R_new' (Kd.R_new' (Kd.R_new' ho0 (Kd.R_lt (rr_ HO_5.out))) (Kd.R_lt (rr_ HO_7.out))) (Kd.R_lt (rr_ HO_535002.out))) (below_size qz1)); replace HO_5 := aM (Kd.R_elder' (rr_ HO_5.out) (Kd.R_base ho0) hb); replace HO_7 := aM (Kd.R_elder' (rr_ HO_7.out) (Kd.R_base ho0) hb); replace HO_535002 := aM (Kd.R_elder' (rr_ HO_535002.out) (Kd.R_base ho0) hb); replace BK534 := bB_ BK534 hb; replace BK535 := bB_ BK535 hb; replace HB := bS_ hb; (try clear hb ho0)))
     repeat (go_quiet (first | (go_at_call 36; (with_reducible refine (impl_Field.calls k2 t524 t525 _ _ t526 t531 t532 t551 _ ?side1 ?side2 A52.out).mono ?_); (case side1 => exact qz16); (case side2 => exact (Kd.R_reads' HO_535002.out).2.1); rintro e w57 ⟨v552, rfl, ho0, hb⟩; have HO553 := aM (Kd.R_lower (Kd.R_new' (Kd.R_new' (Kd.R_new' ho0 (Kd.R_lt (rr_ HO_5.out))) (Kd.R_lt (rr_ HO_7.out))) (Kd.R_lt (rr_ HO_535002.out))) (below_size qz1)); replace HO_5 := aM (Kd.R_elder' (rr_ HO_5.out) (Kd.R_base ho0) hb); replace HO_7 := aM (Kd.R_elder' (rr_ HO_7.out) (Kd.R_base ho0) hb); replace HO_535002 := aM (Kd.R_elder' (rr_ HO_535002.out) (Kd.R_base ho0) hb); replace BK534 := bB_ BK534 hb; replace BK535 := bB_ BK535 hb; replace HB := bS_ hb; (try clear hb ho0))); try go_wp2_with (first | (go_at_call 36; (with_reducible refine (impl_Field.calls k2 t524 t525 _ _ t526 t531 t532 t551 _ ?side1 ?side2 A52.out).mono ?_); (case side1 => exact qz16); (case side2 => exact (Kd.R_reads' HO_535002.out).2.1); rintro e w57 ⟨v552, rfl, ho0, hb⟩; have HO553 := aM (Kd.R_lower (Kd.R_new' (Kd.R_new' (Kd.R_new' ho0 (Kd.R_lt (rr_ HO_5.out))) (Kd.R_lt (rr_ HO_7.out))) (Kd.R_lt (rr_ HO_535002.out))) (below_size qz1)); replace HO_5 := aM (Kd.R_elder' (rr_ HO_5.out) (Kd.R_base ho0) hb); replace HO_7 := aM (Kd.R_elder' (rr_ HO_7.out) (Kd.R_base ho0) hb); replace HO_535002 := aM (Kd.R_elder' (rr_ HO_535002.out) (Kd.R_base ho0) hb); replace BK534 := bB_ BK534 hb; replace BK535 := bB_ BK535 hb; replace HB := bS_ hb; (try clear hb ho0))))
     go_loopg [10] k2 (fun kq v10 w' => ∃ (x10_3 : Int), v10 = .int .i64 x10_3 ∧ Aside0 (laws_FnChosen.l1 kq t536 t551 x10_3 t529 t530 t531 t532 t533 = some r) ∧ Aside0 (kq ≤ k2) ∧ Aside0 (Kd.R (Kd.int .i64) 3 w' w.heap.size (fun k_ => some k_ ≠ (v552 : Value).ownBlock ∧ some k_ ≠ ((.slice Ao13 t526.length co13) : Value).ownBlock) (.slice Ao53 t536.length co53) t536) ∧ Aside0 (Kd.R (Kd.int .i64) 3 w' w.heap.size (fun k_ => some k_ ≠ ((.slice Ao53 t536.length co53) : Value).ownBlock ∧ some k_ ≠ ((.slice Ao13 t526.length co13) : Value).ownBlock) v552 t551) ∧ Aside0 (Kd.R (Kd.int .i64) 3 w' w.heap.size (fun k_ => some k_ ≠ ((.slice Ao53 t536.length co53) : Value).ownBlock ∧ some k_ ≠ (v552 : Value).ownBlock) (.slice Ao13 t526.length co13) t526) ∧ Aside0 (w'.heap[gb534]? = some (.cells #[.int .i64 t524, .int .i64 t525, (.slice Ao13 t526.length co13)] 43 (0, 0))) ∧ Aside0 (w'.heap[gb535]? = some (.cells #[.int .i64 t529, .int .i64 t530, .int .i64 t531, .bool t532, .int .i64 t533] 37 (0, 0))) ∧ Aside0 (Below w.heap.size w w'))
     case atStart => exact ⟨(1), qz8, H', ⟨Nat.le_refl _⟩, ⟨by (with_reducible repeat (first | apply Kd.R_alloc | apply Kd.R_drewN | apply Kd.R_drew)); exact Kd.R_mono HO_5.out (fun _ hk => ⟨hk.2, hk.1.2⟩)⟩, ⟨by (with_reducible repeat (first | apply Kd.R_alloc | apply Kd.R_drewN | apply Kd.R_drew)); exact Kd.R_mono HO553.out (fun _ hk => ⟨hk.1.1.2, hk.2⟩)⟩, ⟨by (with_reducible repeat (first | apply Kd.R_alloc | apply Kd.R_drewN | apply Kd.R_drew)); exact Kd.R_mono HO_535002.out (fun _ hk => ⟨hk.1.1, hk.2⟩)⟩, ⟨bk_ BK534.out⟩, ⟨bk_ BK535.out⟩, ⟨qz1⟩⟩
     case round =>
      clear H'
      try clear c1
      try clear c2
      try clear p2
      try clear c3
      try clear c4
      try clear c5
      try clear p5
      try clear q5
      try clear hx5
      try clear qi5
      try clear c6
      try clear p6
      try clear c11
      try clear c20
      try clear c25
      try clear c30
      try clear c34
      try clear c34b0
      try clear c35
      try clear c35b0
      try clear c36
      try clear c36b0
      try clear c36b1
      try clear c38
      try clear c41
      try clear c43
      try clear c46
      try clear c46b0
      try clear c46b1
      try clear c47
      try clear c47b0
      try clear c47b1
      try clear c48
      try clear c48b0
      try clear c48b1
      try clear c50
      try clear c54
      try clear p54
      try clear q54
      try clear hx54
      try clear p55
      try clear q55
      try clear hx55
      try clear qi55
      try clear hcz12_0 hcz12_1 hcz12_2 hfz12_0 hfz12_1 hfz12_2
      try clear hcz14_0 hcz14_1 hcz14_2 hcz14_3 hcz14_4 hfz14_0 hfz14_1 hfz14_2 hfz14_3 hfz14_4
      try clear hcz16_0 hcz16_1 hcz16_2 hfz16_0 hfz16_1 hfz16_2
      try clear hcz17_0 hcz17_1 hcz17_2 hcz17_3 hcz17_4 hfz17_0 hfz17_1 hfz17_2 hfz17_3 hfz17_4
      try clear hcz31_0 hcz31_1 hcz31_2 hfz31_0 hfz31_1 hfz31_2
      try clear hcz32_0 hcz32_1 hcz32_2 hcz32_3 hcz32_4 hfz32_0 hfz32_1 hfz32_2 hfz32_3 hfz32_4
      try clear hcz39_0 hcz39_1 hcz39_2 hcz39_3 hcz39_4 hfz39_0 hfz39_1 hfz39_2 hfz39_3 hfz39_4
      try clear hcz44_0 hcz44_1 hcz44_2 hcz44_3 hcz44_4 hfz44_0 hfz44_1 hfz44_2 hfz44_3 hfz44_4
      try clear hcz51_0 hcz51_1 hcz51_2 hcz51_3 hcz51_4 hfz51_0 hfz51_1 hfz51_2 hfz51_3 hfz51_4
      try clear hcz55_0 hcz55_1 hcz55_2 hcz55_3 hcz55_4 hfz55_0 hfz55_1 hfz55_2 hfz55_3 hfz55_4
      try clear hcz56_0 hcz56_1 hcz56_2 hfz56_0 hfz56_1 hfz56_2
      try clear hx547_0
      try clear hx548_0
      try clear hx550_0
      try clear p547
      try clear p548
      try clear p550
      try clear q547
      try clear q548
      try clear q550
      obtain ⟨x10_3, rfl, HA, HK3, HO_5, HO_9, HO_535002, BK534, BK535, HB⟩ := hrel
      cases gk with
      | zero => exact absurd HA.out (by simp [laws_FnChosen.l1])
      | succ k3 =>
       have H := HA.out
       clear HA
       simp only [laws_FnChosen.l1] at H
       by_cases c58 : x10_3 < (t536.length : Int)
       {
       rw [if_pos c58] at H
       have c58b0 := decide_eq_true c58
       clear c58
       by_cases c59 : 0 ≤ x10_3
       {
       rw [if_pos c59] at H
       have c59b0 := decide_eq_true c59
       clear c59
       by_cases c60 : 0 ≤ (rd t536 x10_3)
       {
       rw [if_pos c60] at H
       have c60b0 := decide_eq_true c60
       clear c60
       by_cases c61 : (rd t536 x10_3) < (t551.length : Int)
       {
       rw [if_pos c61] at H
       have c61b0 := decide_eq_true c61
       clear c61
       by_cases c62 : (rd t551 (rd t536 x10_3)) ≥ 0
       {
       rw [if_pos c62] at H
       have c62b0 := decide_eq_true c62
       clear c62
       obtain ⟨ji63, hji63⟩ : ∃ j_ : Int, (wrap64 (x10_3 - 1)) = j_ := ⟨_, rfl⟩
       replace H : (if 0 ≤ (ji63) then (if (ji63) < (t536.length : Int) then (if 0 ≤ (rd t536 (ji63)) then (if (rd t536 (ji63)) < (t551.length : Int) then (if (rd t551 (rd t536 (ji63))) < 0 then (some false) else (if (rd t551 (rd t536 (ji63))) > (rd t551 (rd t536 x10_3)) then (some false) else (laws_FnChosen.l1 k3 t536 t551 (wrap64 (x10_3 + 1)) t529 t530 t531 t532 t533))) else (none)) else (none)) else (none)) else (none)) = some r := by first | (rw [hji63] at H; exact H) | (simp only [hji63] at H ⊢; exact H)
       have hji63w : (IntKind.i64.wrap (x10_3 - 1)) = ji63 := (i64_w _).trans hji63
       by_cases c64 : 0 ≤ (ji63)
       {
       rw [if_pos c64] at H
       have c64b0 := decide_eq_true c64
       clear c64
       by_cases c65 : (ji63) < (t536.length : Int)
       {
       rw [if_pos c65] at H
       have c65b0 := decide_eq_true c65
       clear c65
       by_cases c66 : 0 ≤ (rd t536 (ji63))
       {
       rw [if_pos c66] at H
       have c66b0 := decide_eq_true c66
       clear c66
       by_cases c67 : (rd t536 (ji63)) < (t551.length : Int)
       {
       rw [if_pos c67] at H
       have c67b0 := decide_eq_true c67
       clear c67
       by_cases c68 : (rd t551 (rd t536 (ji63))) < 0
       {
       rw [if_pos c68] at H
       have c68b0 := decide_eq_true c68
       clear c68
       obtain rfl := Option.some.inj H
       exact absurd HTR_.out (by decide)
       }
       {
       rw [if_neg c68] at H
       have c68b0 := decide_eq_false c68
       clear c68
       by_cases c69 : (rd t551 (rd t536 (ji63))) > (rd t551 (rd t536 x10_3))
       {
       rw [if_pos c69] at H
       have c69b0 := decide_eq_true c69
       clear c69
       obtain rfl := Option.some.inj H
       exact absurd HTR_.out (by decide)
       }
       {
       rw [if_neg c69] at H
       have c69b0 := decide_eq_false c69
       clear c69
       have H' := aM H
       clear H
       have p554 : 0 ≤ (x10_3 : Int) := dt_
       have q554 : x10_3 < (t536.length : Int) := dt_
       obtain ⟨ad554, e554, hx554_0⟩ := Kd.at_int (Kd.R_reads' HO_5.out).2.2 x10_3 p554 q554
       cases e554
       replace p554 := eq_true p554
       replace q554 := eq_true q554
       obtain ⟨Ao70, co70, eo70⟩ := Kd.R_slice HO_9.out
       subst eo70
       have p555 : 0 ≤ ((rd t536 x10_3) : Int) := dt_
       have q555 : (rd t536 x10_3) < (t551.length : Int) := dt_
       obtain ⟨ad555, e555, hx555_0⟩ := Kd.at_int (Kd.R_reads' HO_9.out).2.2 (rd t536 x10_3) p555 q555
       cases e555
       replace p555 := eq_true p555
       replace q555 := eq_true q555
       have p556 : 0 ≤ ((ji63) : Int) := dt_
       have q556 : (ji63) < (t536.length : Int) := dt_
       obtain ⟨ad556, e556, hx556_0⟩ := Kd.at_int (Kd.R_reads' HO_5.out).2.2 (ji63) p556 q556
       obtain rfl : ad554 = ad556 := (by injection e556)
       replace p556 := eq_true p556
       replace q556 := eq_true q556
       have p557 : 0 ≤ ((rd t536 (ji63)) : Int) := dt_
       have q557 : (rd t536 (ji63)) < (t551.length : Int) := dt_
       obtain ⟨ad557, e557, hx557_0⟩ := Kd.at_int (Kd.R_reads' HO_9.out).2.2 (rd t536 (ji63)) p557 q557
       obtain rfl : ad555 = ad557 := (by injection e557)
       replace p557 := eq_true p557
       replace q557 := eq_true q557
       have p558 : 0 ≤ ((ji63) : Int) := dt_
       have q558 : (ji63) < (t536.length : Int) := dt_
       obtain ⟨ad558, e558, hx558_0⟩ := Kd.at_int (Kd.R_reads' HO_5.out).2.2 (ji63) p558 q558
       obtain rfl : ad554 = ad558 := (by injection e558)
       replace p558 := eq_true p558
       replace q558 := eq_true q558
       have p559 : 0 ≤ ((rd t536 (ji63)) : Int) := dt_
       have q559 : (rd t536 (ji63)) < (t551.length : Int) := dt_
       obtain ⟨ad559, e559, hx559_0⟩ := Kd.at_int (Kd.R_reads' HO_9.out).2.2 (rd t536 (ji63)) p559 q559
       obtain rfl : ad555 = ad559 := (by injection e559)
       replace p559 := eq_true p559
       replace q559 := eq_true q559
       have p560 : 0 ≤ (x10_3 : Int) := dt_
       have q560 : x10_3 < (t536.length : Int) := dt_
       obtain ⟨ad560, e560, hx560_0⟩ := Kd.at_int (Kd.R_reads' HO_5.out).2.2 x10_3 p560 q560
       obtain rfl : ad554 = ad560 := (by injection e560)
       replace p560 := eq_true p560
       replace q560 := eq_true q560
       have p561 : 0 ≤ ((rd t536 x10_3) : Int) := dt_
       have q561 : (rd t536 x10_3) < (t551.length : Int) := dt_
       obtain ⟨ad561, e561, hx561_0⟩ := Kd.at_int (Kd.R_reads' HO_9.out).2.2 (rd t536 x10_3) p561 q561
       obtain rfl : ad555 = ad561 := (by injection e561)
       replace p561 := eq_true p561
       replace q561 := eq_true q561
       go_wp2
       repeat (go_quiet (fail); try go_wp2)
       go_roundg k3
       case measure => have := HJ6.out; have := HK2.out; have := HK3.out; omega
       case rel => exact ⟨(wrap64 (x10_3 + 1)), qz8, H', ⟨by have := HJ6.out; have := HK2.out; have := HK3.out; omega⟩, ⟨rm_ HO_5.out⟩, ⟨rm_ HO_9.out⟩, ⟨rm_ HO_535002.out⟩, ⟨bk_ BK534.out⟩, ⟨bk_ BK535.out⟩, ⟨qz1⟩⟩
       }
       }
       }
       {
       exact an_ c67 H
       }
       }
       {
       exact an_ c66 H
       }
       }
       {
       exact an_ c65 H
       }
       }
       {
       exact an_ c64 H
       }
       }
       {
       rw [if_neg c62] at H
       have c62b0 := decide_eq_false c62
       clear c62
       have H' := aM H
       clear H
       have p554 : 0 ≤ (x10_3 : Int) := dt_
       have q554 : x10_3 < (t536.length : Int) := dt_
       obtain ⟨ad554, e554, hx554_0⟩ := Kd.at_int (Kd.R_reads' HO_5.out).2.2 x10_3 p554 q554
       cases e554
       replace p554 := eq_true p554
       replace q554 := eq_true q554
       obtain ⟨Ao71, co71, eo71⟩ := Kd.R_slice HO_9.out
       subst eo71
       have p555 : 0 ≤ ((rd t536 x10_3) : Int) := dt_
       have q555 : (rd t536 x10_3) < (t551.length : Int) := dt_
       obtain ⟨ad555, e555, hx555_0⟩ := Kd.at_int (Kd.R_reads' HO_9.out).2.2 (rd t536 x10_3) p555 q555
       cases e555
       replace p555 := eq_true p555
       replace q555 := eq_true q555
       go_wp2
       repeat (go_quiet (fail); try go_wp2)
       go_roundg k3
       case measure => have := HJ6.out; have := HK2.out; have := HK3.out; omega
       case rel => exact ⟨(wrap64 (x10_3 + 1)), qz8, H', ⟨by have := HJ6.out; have := HK2.out; have := HK3.out; omega⟩, ⟨rm_ HO_5.out⟩, ⟨rm_ HO_9.out⟩, ⟨rm_ HO_535002.out⟩, ⟨bk_ BK534.out⟩, ⟨bk_ BK535.out⟩, ⟨qz1⟩⟩
       }
       }
       {
       exact an_ c61 H
       }
       }
       {
       exact an_ c60 H
       }
       }
       {
       exact an_ c59 H
       }
       }
       {
       rw [if_neg c58] at H
       have c58b0 := decide_eq_false c58
       clear c58
       replace H := Option.bind_eq_some_iff.mp H
       obtain ⟨t562, A720, H⟩ := H
       replace H : (some t562) = some r := H
       have A72 := aM A720
       clear A720
       obtain rfl := Option.some.inj H
       simp only [Option.some.injEq, Prod.mk.injEq] at H
       obtain ⟨rfl⟩ := H
       have hnb73 := NB535_534.out
       have hnc73 := NB534_535.out
       have hcz74_0 := bc0_ BK535.out
       have hcz74_1 := bc1_ BK535.out
       have hcz74_2 := bc2_ BK535.out
       have hcz74_3 := bc3_ BK535.out
       have hcz74_4 := bc4_ BK535.out
       have hfz74_0 := blk_frozen BK535.out 0
       have hfz74_1 := blk_frozen BK535.out 1
       have hfz74_2 := blk_frozen BK535.out 2
       have hfz74_3 := blk_frozen BK535.out 3
       have hfz74_4 := blk_frozen BK535.out 4
       go_wp2_with (first | (go_at_call 35; (with_reducible refine (laws_among.calls k3 _ _ t536 t530 t562 _ ?side1 ?side2 A72.out).mono ?_); (case side1 => exact qz20); (case side2 => exact (Kd.R_reads' HO_5.out).2.1); rintro e w' ⟨rfl, ⟨nd, rfl⟩⟩; (try first | exact ⟨rfl, _, World.drewN_drewN _ _ _⟩ | exact ⟨rfl, _, Eq.trans (World.drewN_drewN _ _ _) (congrArg (World.drewN _) (Nat.add_assoc _ _ _))⟩)))
       repeat (go_quiet (first | (go_at_call 35; (with_reducible refine (laws_among.calls k3 _ _ t536 t530 t562 _ ?side1 ?side2 A72.out).mono ?_); (case side1 => exact qz20); (case side2 => exact (Kd.R_reads' HO_5.out).2.1); rintro e w' ⟨rfl, ⟨nd, rfl⟩⟩; (try first | exact ⟨rfl, _, World.drewN_drewN _ _ _⟩ | exact ⟨rfl, _, Eq.trans (World.drewN_drewN _ _ _) (congrArg (World.drewN _) (Nat.add_assoc _ _ _))⟩))); try go_wp2_with (first | (go_at_call 35; (with_reducible refine (laws_among.calls k3 _ _ t536 t530 t562 _ ?side1 ?side2 A72.out).mono ?_); (case side1 => exact qz20); (case side2 => exact (Kd.R_reads' HO_5.out).2.1); rintro e w' ⟨rfl, ⟨nd, rfl⟩⟩; (try first | exact ⟨rfl, _, World.drewN_drewN _ _ _⟩ | exact ⟨rfl, _, Eq.trans (World.drewN_drewN _ _ _) (congrArg (World.drewN _) (Nat.add_assoc _ _ _))⟩))))
       go_ret
       exact ⟨qzw, qz1⟩

       }
     }
     }
   }
 }
/-- THE ONE PURE STATEMENT of laws_FnChosen: yours. -/
def laws_FnChosen.Pure : Prop := ∀ (l0 : List Int), l0.length ≤ maxLen → l0.length * 1 ≤ 140737488351232 → (∀ x ∈ l0, (Lit.int .u8 x).wf = true) → ∃ k, laws_FnChosen.f k l0 = some true
theorem laws_FnChosen.walk (P : laws_FnChosen.Pure) (a0 : Option Addr) (len0 cap0 : Nat) (z0 : List Int) (w : World) (w0 : (a0 = none ∧ len0 = 0 ∧ cap0 = 0 ∧ z0 = []) ∨ ∃ x, a0 = some x ∧ len0 ≤ cap0 ∧ cap0 ≤ maxLen ∧ z0.length = cap0 ∧ (∀ i, i < z0.length → w.cell? (x.add i) = some (.int .u8 (z0.getD i 0))) ∧ ∀ n ∈ z0, (Lit.int .u8 n).wf = true) (y0 : len0 * 1 ≤ 140737488351232) :
  Calls Try.prog 6 #[.slice a0 len0 cap0] w fun e w' => e = .returned (.bool true) ∧ Below w.heap.size w w' := by
 obtain ⟨l0, rfl, hr0, hm0, hw0, hc0⟩ := ReadsInt.ofRowC w0
 obtain ⟨k, h⟩ := P l0 hm0 y0 hw0
 refine (laws_FnChosen.calls k _ _ l0 true w (Kd.C_of_reads (d := (0 : Int)) (h1 := fun _ => rfl) hr0) hc0 rfl h).mono ?_
 rintro e w' ⟨rfl, hd⟩
 exact ⟨rfl, hd⟩

end Go.Proofs.Ytankmdbbgepmbaa.PFnChosen
