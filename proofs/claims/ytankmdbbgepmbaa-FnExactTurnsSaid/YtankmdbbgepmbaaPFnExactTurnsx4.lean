-- Made by a program of this session out of the translation. Lean checks it.
import Derived.Test.YtankmdbbgepmbaaPFnExactTurnsx1
import Derived.Test.YtankmdbbgepmbaaPFnExactTurnsx3
namespace Go.Proofs.Ytankmdbbgepmbaa.PFnExactTurns
open Go.RowKit Go.Proofs.YtankmdbbgepmbaaW.PrintWords Go.Proofs.YtankmdbbgepmbaaW.PrintLast Go.Proofs.YtankmdbbgepmbaaW.PrintMore
attribute [local go_sem] max2_int min2_int max_two min_two max_three min_three max_four min_four   -- for this text's walks alone
set_option linter.unusedVariables false
set_option linter.unusedSimpArgs false

/-! ### laws_FnExactTurns: function 3 -/
def laws_FnExactTurns.j0 : Nat → List (S40) → List Int → List Int → Bool → Option (Bool)
 | 0, _, _, _, _ => none
 | k + 1, x0, x4, x6, x42 => if x42 = true then (some false) else ((laws_markIntS.f k x6 1).bind fun bt171 => ((laws_heldIntS.f k bt171.2 1).bind fun t173 => (if t173 < 0 then (some false) else (if t173 = bt171.1 then ((laws_toRobotS.f k x0).bind fun t174 => ((impl_Turns.f t174).bind fun t177 => ((laws_eqIntS.f k t177 x4).bind fun t180 => (if t180 = true then ((laws_heldIntS.f k bt171.2 1).bind fun t181 => (if t181 < 0 then (some false) else (if t181 = bt171.1 then (some true) else (some false)))) else (some false))))) else (some false)))))
def laws_FnExactTurns.f (k : Nat) (l0 : List (S40)) : Option (Bool) := (laws_szRobotS.f l0 1048576).bind fun t150 => (if t150 < 0 then (some true) else ((laws_toRobotS.f k l0).bind fun t151 => ((spec_Turns.f k t151).bind fun t154 => ((laws_toRobotS.f k l0).bind fun t157 => ((impl_Turns.f t157).bind fun t160 => ((laws_eqIntS.f k t160 t154).bind fun t163 => (if t163 = true then ((laws_toRobotS.f k l0).bind fun t164 => ((laws_eqRobotS.f k t157 t164).bind fun t167 => (if t167 = true then ((laws_markRobotS.f k t157 1).bind fun bt168 => (if bt168.1 < 0 then (laws_FnExactTurns.j0 k l0 t154 t160 true) else ((laws_eqIntS.f k t160 t154).bind fun t170 => (laws_FnExactTurns.j0 k l0 t154 t160 (!t170))))) else (some false)))) else (some false))))))))
theorem laws_FnExactTurns.mono_l : ∀ k, (∀ y0 y1 y2 y3, LeO (laws_FnExactTurns.j0 k y0 y1 y2 y3) (laws_FnExactTurns.j0 (k + 1) y0 y1 y2 y3))
 | 0 => fun _ _ _ _ r h => by simp [laws_FnExactTurns.j0] at h
 | k + 1 => by
  have ih0 := laws_FnExactTurns.mono_l k
  {
  intro y0 y1 y2 y3
  unfold laws_FnExactTurns.j0
  have j0 := @laws_eqIntS.mono
  have j1 := @laws_eqRobotS.mono
  have j2 := @laws_heldIntS.mono
  have j3 := @laws_markIntS.mono
  have j4 := @laws_markRobotS.mono
  have j5 := @laws_toRobotS.mono
  have j6 := @spec_Turns.mono
  exact qL
  }
theorem laws_FnExactTurns.mono : ∀ a0 k, LeO (laws_FnExactTurns.f k a0) (laws_FnExactTurns.f (k + 1) a0) := by
 intro a0 k
 have ih0 := laws_FnExactTurns.mono_l k
 unfold laws_FnExactTurns.f
 have j0 := @laws_eqIntS.mono
 have j1 := @laws_eqRobotS.mono
 have j2 := @laws_heldIntS.mono
 have j3 := @laws_markIntS.mono
 have j4 := @laws_markRobotS.mono
 have j5 := @laws_toRobotS.mono
 have j6 := @spec_Turns.mono
 exact qL
set_option maxHeartbeats 8000000 in
set_option maxRecDepth 100000 in
theorem laws_FnExactTurns.calls (k : Nat) (A0 : Option Addr) (c0 : Nat) (l0 : List (S40)) (r : Bool) (w : World) (hr0 : Kd.C k40 w A0 l0.length l0) (hc0 : l0.length ≤ c0) (hT : r = true) (h : laws_FnExactTurns.f k l0 = some r) :
  Calls Try.prog 3 #[.slice A0 l0.length c0] w fun e w' => e = .returned (.bool r) ∧ Below w.heap.size w w' := by
 have HTR_ := aM hT
 clear hT
 have HR0 := aM hr0
 have HC0 := aM hc0
 clear hr0 hc0
 have HB := aM (Below.refl w.heap.size w)
 unfold laws_FnExactTurns.f at h
 have H := h
 clear h
 replace H := Option.bind_eq_some_iff.mp H
 obtain ⟨t150, A20, H⟩ := H
 have A2 := aM A20
 clear A20
 replace H := iE_ H
 rcases H with ⟨c3b0, H⟩ | ⟨c3b0, H⟩
 {
 obtain rfl := Option.some.inj H
 go_enter Try.func3, Try.ntmps3
 go_wp2_with (first | ((with_reducible refine gate_callee (f := 14) rfl ?_); refine goesL_ (some 13) rfl rfl Try.func14 (by kernel_rfl) rfl #[.slice A0 l0.length c0, .int .i64 1048576] rfl qz2 ?_; (with_reducible refine (laws_szRobotS.calls _ _ l0 1048576 t150 _ ?_ ?_ A2.out).mono ?_); exact qz6; exact HC0.out; rintro e w' ⟨rfl, ⟨nd, rfl⟩⟩; refine ⟨_, rfl, ?_⟩))
 go_ret
 exact ⟨qzw, qz1⟩
 }
 {
 replace H := Option.bind_eq_some_iff.mp H
 obtain ⟨t151, A40, H⟩ := H
 have A4 := aM A40
 clear A40
 replace H := Option.bind_eq_some_iff.mp H
 obtain ⟨t154, A50, H⟩ := H
 have A5 := aM A50
 clear A50
 replace H := Option.bind_eq_some_iff.mp H
 obtain ⟨t157, A60, H⟩ := H
 have A6 := aM A60
 clear A60
 replace H := Option.bind_eq_some_iff.mp H
 obtain ⟨t160, A70, H⟩ := H
 have A7 := aM A70
 clear A70
 replace H := Option.bind_eq_some_iff.mp H
 obtain ⟨t163, A80, H⟩ := H
 have A8 := aM A80
 clear A80
 replace H := iB_ H
 rcases H with ⟨rfl, H⟩ | ⟨rfl, H⟩
 {
 replace H := Option.bind_eq_some_iff.mp H
 obtain ⟨t164, A100, H⟩ := H
 have A10 := aM A100
 clear A100
 replace H := Option.bind_eq_some_iff.mp H
 obtain ⟨t167, A110, H⟩ := H
 have A11 := aM A110
 clear A110
 replace H := iB_ H
 rcases H with ⟨rfl, H⟩ | ⟨rfl, H⟩
 {
 replace H := Option.bind_eq_some_iff.mp H
 obtain ⟨⟨t168, t169⟩, A130, H⟩ := H
 try dsimp only at H
 have A13 := aM A130
 clear A130
 have HC14 := aM H
 clear H
 go_enter Try.func3, Try.ntmps3
 go_upto_region 14 with (first | ((with_reducible refine gate_callee (f := 14) rfl ?_); refine goesL_ (some 13) rfl rfl Try.func14 (by kernel_rfl) rfl #[.slice A0 l0.length c0, .int .i64 1048576] rfl qz2 ?_; (with_reducible refine (laws_szRobotS.calls _ _ l0 1048576 t150 _ ?_ ?_ A2.out).mono ?_); exact qz6; exact HC0.out; rintro e w' ⟨rfl, ⟨nd, rfl⟩⟩; refine ⟨_, rfl, ?_⟩) | ((with_reducible refine gate_callee (f := 16) rfl ?_); refine goesL_ (some 17) rfl rfl Try.func16 (by kernel_rfl) rfl #[.slice A0 l0.length c0] rfl qz2 ?_; (with_reducible refine (laws_toRobotS.calls k _ _ l0 t151 _ ?_ ?_ A4.out).mono ?_); exact qz6; exact HC0.out; rintro e w15 ⟨v152, rfl, ho0, hb⟩; refine ⟨_, rfl, ?_⟩; have HO153 := aM (Kd.R_lower ho0 (below_size qz1)); replace HB := bS_ hb; (try clear hb ho0); obtain ⟨Ao16, co16, eo16⟩ := Kd.R_slice HO153.out; subst eo16) | ((with_reducible refine gate_callee (f := 15) rfl ?_); refine goesL_ (some 18) rfl rfl Try.func15 (by kernel_rfl) rfl #[.slice Ao16 t151.length co16] rfl qz2 ?_; (with_reducible refine (spec_Turns.calls k _ _ t151 t154 _ ?side1 ?side2 A5.out).mono ?_); (case side1 => repeat (first | exact (Kd.R_reads' HO153.out).2.2 | (with_reducible refine Kd.C_alloc ?_ _) | (with_reducible refine Kd.C_drewN ?_ _) | (with_reducible refine Kd.C_drew ?_))); (case side2 => exact (Kd.R_reads' HO153.out).2.1); rintro e w17 ⟨v155, rfl, ho0, hb⟩; refine ⟨_, rfl, ?_⟩; replace HO153 := aM (Kd.R_below (rr_ HO153.out) hb); have HO156 := aM (Kd.R_lower ho0 (below_size qz1)); replace HB := bS_ hb; (try clear hb ho0)) | ((with_reducible refine gate_callee (f := 16) rfl ?_); refine goesL_ (some 20) rfl rfl Try.func16 (by kernel_rfl) rfl #[.slice A0 l0.length c0] rfl qz2 ?_; (with_reducible refine (laws_toRobotS.calls k _ _ l0 t157 _ ?side1 ?side2 A6.out).mono ?_); (case side1 => repeat (first | exact (Kd.C_below HR0.out HB.out) | (with_reducible refine Kd.C_alloc ?_ _) | (with_reducible refine Kd.C_drewN ?_ _) | (with_reducible refine Kd.C_drew ?_))); (case side2 => exact HC0.out); rintro e w18 ⟨v158, rfl, ho0, hb⟩; refine ⟨_, rfl, ?_⟩; replace HO156 := aM (Kd.R_below (rr_ HO156.out) hb); have HO159 := aM (Kd.R_lower (Kd.R_new' ho0 (Kd.R_lt (rr_ HO153.out))) (below_size qz1)); replace HO153 := aM (Kd.R_elder' (rr_ HO153.out) (Kd.R_base ho0) hb); replace HB := bS_ hb; (try clear hb ho0); obtain ⟨Ao19, co19, eo19⟩ := Kd.R_slice HO159.out; subst eo19) | ((with_reducible refine gate_callee (f := 17) rfl ?_); refine goesL_ (some 22) rfl rfl Try.func17 (by kernel_rfl) rfl #[.slice Ao19 t157.length co19] rfl qz2 ?_; (with_reducible refine (impl_Turns.calls _ _ t157 t160 _ ?side1 ?side2 A7.out).mono ?_); (case side1 => repeat (first | exact (Kd.R_reads' HO159.out).2.2 | (with_reducible refine Kd.C_alloc ?_ _) | (with_reducible refine Kd.C_drewN ?_ _) | (with_reducible refine Kd.C_drew ?_))); (case side2 => exact (Kd.R_reads' HO159.out).2.1); rintro e w20 ⟨v161, rfl, ho0, hb⟩; refine ⟨_, rfl, ?_⟩; replace HO153 := aM (Kd.R_below (rr_ HO153.out) hb); replace HO159 := aM (Kd.R_below (rr_ HO159.out) hb); have HO162 := aM (Kd.R_lower (Kd.R_new' ho0 (Kd.R_lt (rr_ HO156.out))) (below_size qz1)); replace HO156 := aM (Kd.R_elder' (rr_ HO156.out) (Kd.R_base ho0) hb); replace HB := bS_ hb; (try clear hb ho0); obtain ⟨Ao21, co21, eo21⟩ := Kd.R_slice HO162.out; subst eo21; obtain ⟨Ao22, co22, eo22⟩ := Kd.R_slice HO156.out; subst eo22) | ((with_reducible refine gate_callee (f := 18) rfl ?_); refine goesL_ (some 25) rfl rfl Try.func18 (by kernel_rfl) rfl #[.slice Ao21 t160.length co21, .slice Ao22 t154.length co22] rfl qz2 ?_; (with_reducible refine (laws_eqIntS.calls k _ _ t160 _ _ t154 true _ ?side1 ?side2 ?side3 ?side4 A8.out).mono ?_); (case side1 => repeat (first | exact (Kd.R_reads' HO162.out).2.2 | (with_reducible refine Kd.C_alloc ?_ _) | (with_reducible refine Kd.C_drewN ?_ _) | (with_reducible refine Kd.C_drew ?_))); (case side2 => exact (Kd.R_reads' HO162.out).2.1); (case side3 => repeat (first | exact (Kd.R_reads' HO156.out).2.2 | (with_reducible refine Kd.C_alloc ?_ _) | (with_reducible refine Kd.C_drewN ?_ _) | (with_reducible refine Kd.C_drew ?_))); (case side4 => exact (Kd.R_reads' HO156.out).2.1); rintro e w' ⟨rfl, ⟨nd, rfl⟩⟩; refine ⟨_, rfl, ?_⟩) | ((with_reducible refine gate_callee (f := 16) rfl ?_); refine goesL_ (some 29) rfl rfl Try.func16 (by kernel_rfl) rfl #[.slice A0 l0.length c0] rfl qz2 ?_; (with_reducible refine (laws_toRobotS.calls k _ _ l0 t164 _ ?side1 ?side2 A10.out).mono ?_); (case side1 => repeat (first | exact (Kd.C_below HR0.out qz1) | (with_reducible refine Kd.C_alloc ?_ _) | (with_reducible refine Kd.C_drewN ?_ _) | (with_reducible refine Kd.C_drew ?_))); (case side2 => exact HC0.out); rintro e w23 ⟨v165, rfl, ho0, hb⟩; refine ⟨_, rfl, ?_⟩; replace HO156 := aM (Kd.R_below (rr_ HO156.out) hb); replace HO162 := aM (Kd.R_below (rr_ HO162.out) hb); have HO166 := aM (Kd.R_lower (Kd.R_new' (Kd.R_new' ho0 (Kd.R_lt (rr_ HO153.out))) (Kd.R_lt (rr_ HO159.out))) (below_size qz1)); replace HO153 := aM (Kd.R_elder' (rr_ HO153.out) (Kd.R_base ho0) hb); replace HO159 := aM (Kd.R_elder' (rr_ HO159.out) (Kd.R_base ho0) hb); replace HB := bS_ hb; (try clear hb ho0); obtain ⟨Ao24, co24, eo24⟩ := Kd.R_slice HO166.out; subst eo24) | ((with_reducible refine gate_callee (f := 19) rfl ?_); refine goesL_ (some 30) rfl rfl Try.func19 (by kernel_rfl) rfl #[.slice Ao19 t157.length co19, .slice Ao24 t164.length co24] rfl qz2 ?_; (with_reducible refine (laws_eqRobotS.calls k _ _ t157 _ _ t164 true _ ?side1 ?side2 ?side3 ?side4 A11.out).mono ?_); (case side1 => repeat (first | exact (Kd.R_reads' HO159.out).2.2 | (with_reducible refine Kd.C_alloc ?_ _) | (with_reducible refine Kd.C_drewN ?_ _) | (with_reducible refine Kd.C_drew ?_))); (case side2 => exact (Kd.R_reads' HO159.out).2.1); (case side3 => repeat (first | exact (Kd.R_reads' HO166.out).2.2 | (with_reducible refine Kd.C_alloc ?_ _) | (with_reducible refine Kd.C_drewN ?_ _) | (with_reducible refine Kd.C_drew ?_))); (case side4 => exact (Kd.R_reads' HO166.out).2.1); rintro e w25 ⟨rfl, hb⟩; refine ⟨_, rfl, ?_⟩; replace HO153 := aM (Kd.R_below (rr_ HO153.out) hb); replace HO156 := aM (Kd.R_below (rr_ HO156.out) hb); replace HO159 := aM (Kd.R_below (rr_ HO159.out) hb); replace HO162 := aM (Kd.R_below (rr_ HO162.out) hb); replace HO166 := aM (Kd.R_below (rr_ HO166.out) hb); replace HB := bS_ hb; (try clear hb)) | ((with_reducible refine gate_callee (f := 20) rfl ?_); refine goesL_ (some 34) rfl rfl Try.func20 (by kernel_rfl) rfl #[.slice Ao19 t157.length co19, .int .i64 1] rfl qz2 ?_; (with_reducible refine (laws_markRobotS.calls k (fun k_ => some k_ = (.slice Ao19 t157.length co19 : Value).ownBlock) (.slice Ao19 t157.length co19) t157 1 t168 t169 w _ ?_ ?_ A13.out).mono ?_); exact qz1; exact Kd.R_tight rfl HO159.out; rintro e w26 ⟨rfl, hy0, hb, hkp⟩; refine ⟨_, rfl, ?_⟩; replace HO153 := aM (Kd.R_mono (ok' := fun k_ => some k_ ≠ (.slice Ao19 t157.length co19 : Value).ownBlock ∧ some k_ ≠ (.slice Ao24 t164.length co24 : Value).ownBlock) (Kd.R_keptB (HO153.out) hkp (fun k_ hk_ hs_ => (hk_.1.2) hs_)) (fun k_ hk_ => ⟨hk_.1.1.2, hk_.1.2⟩)); replace HO156 := aM (Kd.R_mono (ok' := fun k_ => some k_ ≠ (.slice Ao21 t160.length co21 : Value).ownBlock) (Kd.R_keptB ((Kd.R_apart' HO156.out (Kd.R_typed HO159.out) (by decide))) hkp (fun k_ hk_ hs_ => (hk_.2) hs_)) (fun k_ hk_ => hk_.1.1.2)); replace HO162 := aM (Kd.R_mono (ok' := fun k_ => some k_ ≠ (.slice Ao22 t154.length co22 : Value).ownBlock) (Kd.R_keptB ((Kd.R_apart' HO162.out (Kd.R_typed HO159.out) (by decide))) hkp (fun k_ hk_ hs_ => (hk_.2) hs_)) (fun k_ hk_ => hk_.1.1.2)); replace HO159 := aM (Kd.R_reok rfl hy0 (fun k_ e_ => HO159.out.1 k_ e_)); replace HO166 := aM (Kd.R_mono (ok' := fun k_ => some k_ ≠ (.slice Ao16 t151.length co16 : Value).ownBlock ∧ some k_ ≠ (.slice Ao19 t157.length co19 : Value).ownBlock) (Kd.R_keptB (HO166.out) hkp (fun k_ hk_ hs_ => (hk_.2) hs_)) (fun k_ hk_ => ⟨hk_.1.1.2, hk_.1.2⟩)); replace HB := aM (hb); (try clear hb); (try clear hkp); (try clear hy0)))
 (try simp only [Act.put, List.setIfInBounds_toArray, List.set_cons_zero, List.set_cons_succ])
 go_cut [42] (fun v42 wc => ∃ (kq : Nat) (x42_13 : Bool), v42 = .bool x42_13 ∧ Aside0 (laws_FnExactTurns.j0 kq l0 t154 t160 x42_13 = some r) ∧ Aside0 (kq ≤ k) ∧ Aside0 (Kd.R (Kd.int .i64) 3 wc w.heap.size (fun k_ => some k_ ≠ ((.slice Ao21 t160.length co21) : Value).ownBlock) (.slice Ao22 t154.length co22) t154) ∧ Aside0 (Kd.R (Kd.int .i64) 3 wc w.heap.size (fun k_ => some k_ ≠ ((.slice Ao22 t154.length co22) : Value).ownBlock) (.slice Ao21 t160.length co21) t160) ∧ Aside0 (Below w.heap.size w wc))
 case first =>
  have H := HC14.out
  clear HC14
  replace H := iE_ H
  rcases H with ⟨c27b0, H⟩ | ⟨c27b0, H⟩
  {
  (first | rw [c27b0] | (simp only [i64_w, i32_w]; rw [c27b0]) | rw [@decide_eq_true _ _ (of_decide_eq_true c27b0)] | rw [@decide_eq_true _ _ (of_decide_eq_true c27b1)] | skip)
  have H' := aM H
  clear H
  go_wp2
  go_meet
  case rel => exact ⟨_, (true), qz4, H', ⟨by first | omega | exact Nat.le_refl _⟩, ⟨rm_ HO156.out⟩, ⟨rm_ HO162.out⟩, ⟨qz1⟩⟩
  }
  {
  (first | rw [c27b0] | (simp only [i64_w, i32_w]; rw [c27b0]) | rw [@decide_eq_false _ _ (of_decide_eq_false c27b0)] | rw [@decide_eq_false _ _ (of_decide_eq_false c27b1)] | skip)
  replace H := Option.bind_eq_some_iff.mp H
  obtain ⟨t170, A280, H⟩ := H
  have A28 := aM A280
  clear A280
  have H' := aM H
  clear H
  go_wp2_with (first | (go_at_call 18; (with_reducible refine (laws_eqIntS.calls k _ _ t160 _ _ t154 t170 _ ?side1 ?side2 ?side3 ?side4 A28.out).mono ?_); (case side1 => repeat (first | exact (Kd.R_reads' HO162.out).2.2 | (with_reducible refine Kd.C_alloc ?_ _) | (with_reducible refine Kd.C_drewN ?_ _) | (with_reducible refine Kd.C_drew ?_))); (case side2 => exact (Kd.R_reads' HO162.out).2.1); (case side3 => repeat (first | exact (Kd.R_reads' HO156.out).2.2 | (with_reducible refine Kd.C_alloc ?_ _) | (with_reducible refine Kd.C_drewN ?_ _) | (with_reducible refine Kd.C_drew ?_))); (case side4 => exact (Kd.R_reads' HO156.out).2.1); rintro e w' ⟨rfl, ⟨nd, rfl⟩⟩))
  go_meet
  case rel => exact ⟨_, (!t170), qz4, H', ⟨by first | omega | exact Nat.le_refl _⟩, ⟨rm_ HO156.out⟩, ⟨rm_ HO162.out⟩, ⟨qz1⟩⟩
  }
 case rest =>
 clear HC14
 try clear c3
 try clear c3b0
 try clear c9
 try clear c12
 obtain ⟨kq, x42_13, rfl, HA, HJ13, HO_4, HO_6, HB⟩ := hcut
 cases kq with
 | zero => exact absurd HA.out (by simp [laws_FnExactTurns.j0])
 | succ kj13 =>
 have H := HA.out
 clear HA
 simp only [laws_FnExactTurns.j0] at H
 replace H := iB_ H
 rcases H with ⟨rfl, H⟩ | ⟨rfl, H⟩
 {
 obtain rfl := Option.some.inj H
 exact absurd HTR_.out (by decide)
 }
 {
 replace H := Option.bind_eq_some_iff.mp H
 obtain ⟨⟨t171, t172⟩, A300, H⟩ := H
 try dsimp only at H
 have A30 := aM A300
 clear A300
 replace H := Option.bind_eq_some_iff.mp H
 obtain ⟨t173, A310, H⟩ := H
 have A31 := aM A310
 clear A310
 replace H := iE_ H
 rcases H with ⟨c32b0, H⟩ | ⟨c32b0, H⟩
 {
 obtain rfl := Option.some.inj H
 exact absurd HTR_.out (by decide)
 }
 {
 replace H := iQ_ H
 rcases H with ⟨c33b0, c33b1, H⟩ | ⟨c33, c33b0, c33b1, H⟩
 {
 replace H := Option.bind_eq_some_iff.mp H
 obtain ⟨t174, A340, H⟩ := H
 have A34 := aM A340
 clear A340
 replace H := Option.bind_eq_some_iff.mp H
 obtain ⟨t177, A350, H⟩ := H
 have A35 := aM A350
 clear A350
 replace H := Option.bind_eq_some_iff.mp H
 obtain ⟨t180, A360, H⟩ := H
 have A36 := aM A360
 clear A360
 replace H := iB_ H
 rcases H with ⟨rfl, H⟩ | ⟨rfl, H⟩
 {
 replace H := Option.bind_eq_some_iff.mp H
 obtain ⟨t181, A380, H⟩ := H
 have A38 := aM A380
 clear A380
 replace H := iE_ H
 rcases H with ⟨c39b0, H⟩ | ⟨c39b0, H⟩
 {
 obtain rfl := Option.some.inj H
 exact absurd HTR_.out (by decide)
 }
 {
 replace H := iQ_ H
 rcases H with ⟨c40b0, c40b1, H⟩ | ⟨c40, c40b0, c40b1, H⟩
 {
 obtain rfl := Option.some.inj H
 go_wp2_with (first | ((with_reducible refine gate_callee (f := 21) rfl ?_); refine goesL_ (some 45) rfl rfl Try.func21 (by kernel_rfl) rfl #[.slice Ao21 t160.length co21, .int .i64 1] rfl qz2 ?_; (with_reducible refine (laws_markIntS.calls kj13 (fun k_ => some k_ = (.slice Ao21 t160.length co21 : Value).ownBlock) (.slice Ao21 t160.length co21) t160 1 t171 t172 w _ ?_ ?_ A30.out).mono ?_); exact qz1; exact Kd.R_tight rfl HO_6.out; rintro e w41 ⟨rfl, hy0, hb, hkp⟩; refine ⟨_, rfl, ?_⟩; replace HO_4 := aM (Kd.R_mono (ok' := fun k_ => some k_ ≠ (.slice Ao21 t160.length co21 : Value).ownBlock) (Kd.R_keptB (HO_4.out) hkp (fun k_ hk_ hs_ => (hk_) hs_)) (fun k_ hk_ => hk_.1)); replace HO_6 := aM (Kd.R_reok rfl hy0 (fun k_ e_ => HO_6.out.1 k_ e_)); replace HB := aM (hb); (try clear hb); (try clear hkp); (try clear hy0)) | ((with_reducible refine gate_callee (f := 22) rfl ?_); refine goesL_ (some 48) rfl rfl Try.func22 (by kernel_rfl) rfl #[.slice Ao21 t172.length co21, .int .i64 1] rfl qz7 ?_; (with_reducible refine (laws_heldIntS.calls kj13 _ _ t172 1 t173 _ ?side1 ?side2 A31.out).mono ?_); (case side1 => repeat (first | exact (Kd.R_reads' HO_6.out).2.2 | (with_reducible refine Kd.C_alloc ?_ _) | (with_reducible refine Kd.C_drewN ?_ _) | (with_reducible refine Kd.C_drew ?_))); (case side2 => rw [show t172.length = t160.length from (Kd.R_reads' HO_6.out).1.symm]; exact (Kd.R_reads' HO_6.out).2.1); rintro e w' ⟨rfl, ⟨nd, rfl⟩⟩; refine ⟨_, rfl, ?_⟩) | ((with_reducible refine gate_callee (f := 16) rfl ?_); refine goesL_ (some 55) rfl rfl Try.func16 (by kernel_rfl) rfl #[.slice A0 l0.length c0] rfl qz2 ?_; (with_reducible refine (laws_toRobotS.calls kj13 _ _ l0 t174 _ ?side1 ?side2 A34.out).mono ?_); (case side1 => repeat (first | exact (Kd.C_below HR0.out qz1) | (with_reducible refine Kd.C_alloc ?_ _) | (with_reducible refine Kd.C_drewN ?_ _) | (with_reducible refine Kd.C_drew ?_))); (case side2 => exact HC0.out); rintro e w42 ⟨v175, rfl, ho0, hb⟩; refine ⟨_, rfl, ?_⟩; replace HO_4 := aM (Kd.R_below (rr_ HO_4.out) hb); replace HO_6 := aM (Kd.R_below (rr_ HO_6.out) hb); have HO176 := aM (Kd.R_lower ho0 (below_size qz1)); replace HB := bS_ hb; (try clear hb ho0); obtain ⟨Ao43, co43, eo43⟩ := Kd.R_slice HO176.out; subst eo43) | ((with_reducible refine gate_callee (f := 17) rfl ?_); refine goesL_ (some 56) rfl rfl Try.func17 (by kernel_rfl) rfl #[.slice Ao43 t174.length co43] rfl qz2 ?_; (with_reducible refine (impl_Turns.calls _ _ t174 t177 _ ?side1 ?side2 A35.out).mono ?_); (case side1 => repeat (first | exact (Kd.R_reads' HO176.out).2.2 | (with_reducible refine Kd.C_alloc ?_ _) | (with_reducible refine Kd.C_drewN ?_ _) | (with_reducible refine Kd.C_drew ?_))); (case side2 => exact (Kd.R_reads' HO176.out).2.1); rintro e w44 ⟨v178, rfl, ho0, hb⟩; refine ⟨_, rfl, ?_⟩; replace HO176 := aM (Kd.R_below (rr_ HO176.out) hb); have HO179 := aM (Kd.R_lower (Kd.R_new' (Kd.R_new' ho0 (Kd.R_lt (rr_ HO_4.out))) (Kd.R_lt (rr_ HO_6.out))) (below_size qz1)); replace HO_4 := aM (Kd.R_elder' (rr_ HO_4.out) (Kd.R_base ho0) hb); replace HO_6 := aM (Kd.R_elder' (rr_ HO_6.out) (Kd.R_base ho0) hb); replace HB := bS_ hb; (try clear hb ho0); obtain ⟨Ao45, co45, eo45⟩ := Kd.R_slice HO179.out; subst eo45) | ((with_reducible refine gate_callee (f := 18) rfl ?_); refine goesL_ (some 59) rfl rfl Try.func18 (by kernel_rfl) rfl #[.slice Ao45 t177.length co45, .slice Ao22 t154.length co22] rfl qz2 ?_; (with_reducible refine (laws_eqIntS.calls kj13 _ _ t177 _ _ t154 true _ ?side1 ?side2 ?side3 ?side4 A36.out).mono ?_); (case side1 => repeat (first | exact (Kd.R_reads' HO179.out).2.2 | (with_reducible refine Kd.C_alloc ?_ _) | (with_reducible refine Kd.C_drewN ?_ _) | (with_reducible refine Kd.C_drew ?_))); (case side2 => exact (Kd.R_reads' HO179.out).2.1); (case side3 => repeat (first | exact (Kd.R_reads' HO_4.out).2.2 | (with_reducible refine Kd.C_alloc ?_ _) | (with_reducible refine Kd.C_drewN ?_ _) | (with_reducible refine Kd.C_drew ?_))); (case side4 => exact (Kd.R_reads' HO_4.out).2.1); rintro e w' ⟨rfl, ⟨nd, rfl⟩⟩; refine ⟨_, rfl, ?_⟩) | ((with_reducible refine gate_callee (f := 22) rfl ?_); refine goesL_ (some 63) rfl rfl Try.func22 (by kernel_rfl) rfl #[.slice Ao21 t172.length co21, .int .i64 1] rfl qz7 ?_; (with_reducible refine (laws_heldIntS.calls kj13 _ _ t172 1 t181 _ ?side1 ?side2 A38.out).mono ?_); (case side1 => repeat (first | exact (Kd.R_reads' HO_6.out).2.2 | (with_reducible refine Kd.C_alloc ?_ _) | (with_reducible refine Kd.C_drewN ?_ _) | (with_reducible refine Kd.C_drew ?_))); (case side2 => rw [show t172.length = t160.length from (Kd.R_reads' HO_6.out).1.symm]; exact (Kd.R_reads' HO_6.out).2.1); rintro e w' ⟨rfl, ⟨nd, rfl⟩⟩; refine ⟨_, rfl, ?_⟩))
 go_ret
 exact ⟨qzw, qz1⟩
 }
 {
 obtain rfl := Option.some.inj H
 exact absurd HTR_.out (by decide)
 }
 }
 }
 {
 obtain rfl := Option.some.inj H
 exact absurd HTR_.out (by decide)
 }
 }
 {
 obtain rfl := Option.some.inj H
 exact absurd HTR_.out (by decide)
 }
 }
 }
 }
 {
 obtain rfl := Option.some.inj H
 exact absurd HTR_.out (by decide)
 }
 }
 {
 obtain rfl := Option.some.inj H
 exact absurd HTR_.out (by decide)
 }
 }
end Go.Proofs.Ytankmdbbgepmbaa.PFnExactTurns
