-- Made by a program of this session out of the translation. Lean checks it.
import Derived.Test.YtankmdbbgepmbaaPFnClashesx4
namespace Go.Proofs.Ytankmdbbgepmbaa.PFnClashes
open Go.RowKit Go.Proofs.YtankmdbbgepmbaaW.PrintWords Go.Proofs.YtankmdbbgepmbaaW.PrintLast Go.Proofs.YtankmdbbgepmbaaW.PrintMore
set_option linter.unusedVariables false
set_option linter.unusedSimpArgs false
set_option maxHeartbeats 16000000
set_option maxRecDepth 100000

/-! ### spec_Choices: function 26 -/
def spec_Choices.j0 : Nat → Bool → Int → Int → List Int → Int → Int → Int → Bool → Int → Option (List Int)
 | 0, _, _, _, _, _, _, _, _, _ => none
 | k + 1, x26, x227000, x227001, x227002, x228000, x228001, x228002, x228003, x228004 => if x26 = true then (some (([] : List Int))) else ((spec_l7Field.f k x227000 x227001 x227002 x228000 x228001 x228002 x228003 x228004).bind fun t234 => ((spec_l7Choices.f k x227000 x227001 x227002 x228000 x228001 x228002 x228003 x228004 t234).bind fun t237 => (some t237)))
def spec_Choices.f (k : Nat) (a0_0 : Int) (a0_1 : Int) (l0_2 : List Int) (a1_0 : Int) (a1_1 : Int) (a1_2 : Int) (a1_3 : Bool) (a1_4 : Int) : Option (List Int) := (spec_FloorOk.f k a0_0 a0_1 l0_2).bind fun t228 => (if t228 = true then ((spec_l7Free.f a0_0 a0_1 l0_2 a1_1).bind fun t229 => (if t229 = true then (if a1_2 = (-1) then (spec_Choices.j0 k false a0_0 a0_1 l0_2 a1_0 a1_1 a1_2 a1_3 a1_4) else ((spec_l7Free.f a0_0 a0_1 l0_2 a1_2).bind fun t230 => (spec_Choices.j0 k (!t230) a0_0 a0_1 l0_2 a1_0 a1_1 a1_2 a1_3 a1_4))) else (spec_Choices.j0 k true a0_0 a0_1 l0_2 a1_0 a1_1 a1_2 a1_3 a1_4))) else (spec_Choices.j0 k true a0_0 a0_1 l0_2 a1_0 a1_1 a1_2 a1_3 a1_4))
theorem spec_Choices.mono_l : ∀ k, (∀ y0 y1 y2 y3 y4 y5 y6 y7 y8, LeO (spec_Choices.j0 k y0 y1 y2 y3 y4 y5 y6 y7 y8) (spec_Choices.j0 (k + 1) y0 y1 y2 y3 y4 y5 y6 y7 y8))
 | 0 => fun _ _ _ _ _ _ _ _ _ r h => by simp [spec_Choices.j0] at h
 | k + 1 => by
  have ih0 := spec_Choices.mono_l k
  {
  intro y0 y1 y2 y3 y4 y5 y6 y7 y8
  unfold spec_Choices.j0
  have j0 := @spec_FloorOk.mono
  have j1 := @spec_l7Choices.mono
  have j2 := @spec_l7Field.mono
  exact qL
  }
theorem spec_Choices.mono : ∀ a0 a1 a2 a3 a4 a5 a6 a7 k, LeO (spec_Choices.f k a0 a1 a2 a3 a4 a5 a6 a7) (spec_Choices.f (k + 1) a0 a1 a2 a3 a4 a5 a6 a7) := by
 intro a0 a1 a2 a3 a4 a5 a6 a7 k
 have ih0 := spec_Choices.mono_l k
 unfold spec_Choices.f
 have j0 := @spec_FloorOk.mono
 have j1 := @spec_l7Choices.mono
 have j2 := @spec_l7Field.mono
 exact qL
theorem spec_Choices.calls (k : Nat) (a0_0 : Int) (a0_1 : Int) (A0_2 : Option Addr) (c0_2 : Nat) (l0_2 : List Int) (a1_0 : Int) (a1_1 : Int) (a1_2 : Int) (a1_3 : Bool) (a1_4 : Int) (r : List Int) (w : World) (hr0_2 : Kd.C (Kd.int .i64) w A0_2 l0_2.length l0_2) (hc0_2 : l0_2.length ≤ c0_2) (h : spec_Choices.f k a0_0 a0_1 l0_2 a1_0 a1_1 a1_2 a1_3 a1_4 = some r) :
  Calls Try.prog 26 #[.agg #[.int .i64 a0_0, .int .i64 a0_1, .slice A0_2 l0_2.length c0_2], .agg #[.int .i64 a1_0, .int .i64 a1_1, .int .i64 a1_2, .bool a1_3, .int .i64 a1_4]] w fun e w' => ∃ v0_ : Value, e = .returned (v0_) ∧ Kd.R (Kd.int .i64) 3 w' w.heap.size (fun _ => True) v0_ r ∧ Below w.heap.size w w' := by
 have hu43 := Try.underlying43
 have hu37 := Try.underlying37
 have HR0_2 := aM hr0_2
 have HC0_2 := aM hc0_2
 clear hr0_2 hc0_2
 have HB := aM (Below.refl w.heap.size w)
 unfold spec_Choices.f at h
 have H := h
 clear h
 have HC3 := aM H
 clear H
 go_enter Try.func26, Try.ntmps26
 go_upto_region 1 with (first | ((with_reducible refine gate_dst (N := 2) rfl ?_); refine bx_ 2 #[.int .i64 a0_0, .int .i64 a0_1, .slice A0_2 l0_2.length c0_2] 43 ?_; intro gb226 hg w4 hbox hb; have BK226 := aM (hbox); have GW226 := aM (bz_ w hg qz1); have GE226 := GW226; replace HB := bS_ hb; clear hb hbox hg) | ((with_reducible refine gate_dst (N := 3) rfl ?_); refine bx_ 3 #[.int .i64 a1_0, .int .i64 a1_1, .int .i64 a1_2, .bool a1_3, .int .i64 a1_4] 37 ?_; intro gb227 hg w5 hbox hb; have BK227 := aM (hbox); have GW227 := aM (bz_ w hg qz1); have GE227 := GW227; replace HB := bS_ hb; obtain ⟨NB226_227, NB227_226⟩ := nb_ hg (bk_ BK226.out); replace BK226 := bB_ BK226 hb; clear hb hbox hg))
 (try simp only [Act.put, List.setIfInBounds_toArray, List.set_cons_zero, List.set_cons_succ])
 go_cut [26] (fun v26 wc => ∃ (kq : Nat) (x26_2 : Bool), v26 = .bool x26_2 ∧ Aside0 (spec_Choices.j0 kq x26_2 a0_0 a0_1 l0_2 a1_0 a1_1 a1_2 a1_3 a1_4 = some r) ∧ Aside0 (kq ≤ k) ∧ Aside0 (wc.heap[gb226]? = some (.cells #[.int .i64 a0_0, .int .i64 a0_1, (.slice A0_2 l0_2.length c0_2)] 43 (0, 0))) ∧ Aside0 (wc.heap[gb227]? = some (.cells #[.int .i64 a1_0, .int .i64 a1_1, .int .i64 a1_2, .bool a1_3, .int .i64 a1_4] 37 (0, 0))) ∧ Aside0 (Below w.heap.size w wc))
 case first =>
  have H := HC3.out
  clear HC3
  replace H := Option.bind_eq_some_iff.mp H
  obtain ⟨t228, A60, H⟩ := H
  have A6 := aM A60
  clear A60
  replace H := iB_ H
  rcases H with ⟨rfl, H⟩ | ⟨rfl, H⟩
  {
  replace H := Option.bind_eq_some_iff.mp H
  obtain ⟨t229, A80, H⟩ := H
  have A8 := aM A80
  clear A80
  replace H := iB_ H
  rcases H with ⟨rfl, H⟩ | ⟨rfl, H⟩
  {
  replace H := iQ_ H
  rcases H with ⟨c10b0, c10b1, H⟩ | ⟨c10, c10b0, c10b1, H⟩
  {
  (first | rw [c10b0] | (simp only [i64_w, i32_w]; rw [c10b0]) | rw [@decide_eq_true _ _ (of_decide_eq_true c10b0)] | rw [@decide_eq_true _ _ (of_decide_eq_true c10b1)] | skip)
  have H' := aM H
  clear H
  have hnb11 := NB226_227.out
  have hnc11 := NB227_226.out
  obtain ⟨hcz12_0, hcz12_1, hcz12_2, hfz12_0, hfz12_1, hfz12_2⟩ := b6_ BK226.out
  go_wp2_with (first | ((with_reducible refine gate_callee (f := 60) rfl ?_); refine goesL_ (some 6) rfl rfl Try.func60 (by kernel_rfl) rfl #[.agg #[.int .i64 a0_0, .int .i64 a0_1, .slice A0_2 l0_2.length c0_2]] rfl qz2 ?_; (with_reducible refine (spec_FloorOk.calls k a0_0 a0_1 _ _ l0_2 true _ ?_ ?_ A6.out).mono ?_); exact qz6; exact qz28; rintro e w13 ⟨rfl, hb⟩; refine ⟨_, rfl, ?_⟩; replace BK226 := bB_ BK226 hb; replace BK227 := bB_ BK227 hb; replace HB := bS_ hb; (try clear hb); obtain ⟨hcz14_0, hcz14_1, hcz14_2, hfz14_0, hfz14_1, hfz14_2⟩ := b6_ BK226.out; obtain ⟨hcz15_0, hcz15_1, hcz15_2, hcz15_3, hcz15_4, hfz15_0, hfz15_1, hfz15_2, hfz15_3, hfz15_4⟩ := b10_ BK227.out) | (go_at_call 61; (with_reducible refine (spec_l7Free.calls a0_0 a0_1 _ _ l0_2 a1_1 true _ ?_ ?_ A8.out).mono ?_); exact qz6; exact qz28; rintro e w16 ⟨rfl, hb⟩; replace BK226 := bB_ BK226 hb; replace BK227 := bB_ BK227 hb; replace HB := bS_ hb; (try clear hb); obtain ⟨hcz17_0, hcz17_1, hcz17_2, hcz17_3, hcz17_4, hfz17_0, hfz17_1, hfz17_2, hfz17_3, hfz17_4⟩ := b10_ BK227.out))
  go_meet
  case rel => exact ⟨_, (false), qz7, H', ⟨by first | omega | exact Nat.le_refl _⟩, ⟨bk_ BK226.out⟩, ⟨bk_ BK227.out⟩, ⟨qz1⟩⟩
  }
  {
  (first | rw [c10b0] | (simp only [i64_w, i32_w]; rw [c10b0]) | rw [@decide_eq_false _ _ (of_decide_eq_false c10b0)] | rw [@decide_eq_false _ _ (of_decide_eq_false c10b1)] | skip)
  replace H := Option.bind_eq_some_iff.mp H
  obtain ⟨t230, A180, H⟩ := H
  have A18 := aM A180
  clear A180
  have H' := aM H
  clear H
  have hnb19 := NB226_227.out
  have hnc19 := NB227_226.out
  obtain ⟨hcz20_0, hcz20_1, hcz20_2, hfz20_0, hfz20_1, hfz20_2⟩ := b6_ BK226.out
  go_wp2_with (first | ((with_reducible refine gate_callee (f := 60) rfl ?_); refine goesL_ (some 6) rfl rfl Try.func60 (by kernel_rfl) rfl #[.agg #[.int .i64 a0_0, .int .i64 a0_1, .slice A0_2 l0_2.length c0_2]] rfl qz2 ?_; (with_reducible refine (spec_FloorOk.calls k a0_0 a0_1 _ _ l0_2 true _ ?_ ?_ A6.out).mono ?_); exact qz6; exact qz28; rintro e w21 ⟨rfl, hb⟩; refine ⟨_, rfl, ?_⟩; replace BK226 := bB_ BK226 hb; replace BK227 := bB_ BK227 hb; replace HB := bS_ hb; (try clear hb); obtain ⟨hcz22_0, hcz22_1, hcz22_2, hfz22_0, hfz22_1, hfz22_2⟩ := b6_ BK226.out; obtain ⟨hcz23_0, hcz23_1, hcz23_2, hcz23_3, hcz23_4, hfz23_0, hfz23_1, hfz23_2, hfz23_3, hfz23_4⟩ := b10_ BK227.out) | (go_at_call 61; (with_reducible refine (spec_l7Free.calls a0_0 a0_1 _ _ l0_2 a1_1 true _ ?_ ?_ A8.out).mono ?_); exact qz6; exact qz28; rintro e w24 ⟨rfl, hb⟩; replace BK226 := bB_ BK226 hb; replace BK227 := bB_ BK227 hb; replace HB := bS_ hb; (try clear hb); obtain ⟨hcz25_0, hcz25_1, hcz25_2, hcz25_3, hcz25_4, hfz25_0, hfz25_1, hfz25_2, hfz25_3, hfz25_4⟩ := b10_ BK227.out; obtain ⟨hcz26_0, hcz26_1, hcz26_2, hfz26_0, hfz26_1, hfz26_2⟩ := b6_ BK226.out) | (go_at_call 61; (with_reducible refine (spec_l7Free.calls a0_0 a0_1 _ _ l0_2 a1_2 t230 _ ?_ ?_ A18.out).mono ?_); exact qz6; exact qz28; rintro e w27 ⟨rfl, hb⟩; replace BK226 := bB_ BK226 hb; replace BK227 := bB_ BK227 hb; replace HB := bS_ hb; (try clear hb)))
  go_meet
  case rel => exact ⟨_, (!t230), qz7, H', ⟨by first | omega | exact Nat.le_refl _⟩, ⟨bk_ BK226.out⟩, ⟨bk_ BK227.out⟩, ⟨qz1⟩⟩
  }
  }
  {
  have H' := aM H
  clear H
  have hnb28 := NB226_227.out
  have hnc28 := NB227_226.out
  obtain ⟨hcz29_0, hcz29_1, hcz29_2, hfz29_0, hfz29_1, hfz29_2⟩ := b6_ BK226.out
  go_wp2_with (first | ((with_reducible refine gate_callee (f := 60) rfl ?_); refine goesL_ (some 6) rfl rfl Try.func60 (by kernel_rfl) rfl #[.agg #[.int .i64 a0_0, .int .i64 a0_1, .slice A0_2 l0_2.length c0_2]] rfl qz2 ?_; (with_reducible refine (spec_FloorOk.calls k a0_0 a0_1 _ _ l0_2 true _ ?_ ?_ A6.out).mono ?_); exact qz6; exact qz28; rintro e w30 ⟨rfl, hb⟩; refine ⟨_, rfl, ?_⟩; replace BK226 := bB_ BK226 hb; replace BK227 := bB_ BK227 hb; replace HB := bS_ hb; (try clear hb); obtain ⟨hcz31_0, hcz31_1, hcz31_2, hfz31_0, hfz31_1, hfz31_2⟩ := b6_ BK226.out; obtain ⟨hcz32_0, hcz32_1, hcz32_2, hcz32_3, hcz32_4, hfz32_0, hfz32_1, hfz32_2, hfz32_3, hfz32_4⟩ := b10_ BK227.out) | (go_at_call 61; (with_reducible refine (spec_l7Free.calls a0_0 a0_1 _ _ l0_2 a1_1 false _ ?_ ?_ A8.out).mono ?_); exact qz6; exact qz28; rintro e w33 ⟨rfl, hb⟩; replace BK226 := bB_ BK226 hb; replace BK227 := bB_ BK227 hb; replace HB := bS_ hb; (try clear hb)))
  go_meet
  case rel => exact ⟨_, (true), qz7, H', ⟨by first | omega | exact Nat.le_refl _⟩, ⟨bk_ BK226.out⟩, ⟨bk_ BK227.out⟩, ⟨qz1⟩⟩
  }
  }
  {
  have H' := aM H
  clear H
  have hnb34 := NB226_227.out
  have hnc34 := NB227_226.out
  obtain ⟨hcz35_0, hcz35_1, hcz35_2, hfz35_0, hfz35_1, hfz35_2⟩ := b6_ BK226.out
  go_wp2_with (first | ((with_reducible refine gate_callee (f := 60) rfl ?_); refine goesL_ (some 6) rfl rfl Try.func60 (by kernel_rfl) rfl #[.agg #[.int .i64 a0_0, .int .i64 a0_1, .slice A0_2 l0_2.length c0_2]] rfl qz2 ?_; (with_reducible refine (spec_FloorOk.calls k a0_0 a0_1 _ _ l0_2 false _ ?_ ?_ A6.out).mono ?_); exact qz6; exact qz28; rintro e w36 ⟨rfl, hb⟩; refine ⟨_, rfl, ?_⟩; replace BK226 := bB_ BK226 hb; replace BK227 := bB_ BK227 hb; replace HB := bS_ hb; (try clear hb)))
  go_meet
  case rel => exact ⟨_, (true), qz7, H', ⟨by first | omega | exact Nat.le_refl _⟩, ⟨bk_ BK226.out⟩, ⟨bk_ BK227.out⟩, ⟨qz1⟩⟩
  }
 case rest =>
 clear HC3
 obtain ⟨kq, x26_2, rfl, HA, HJ2, BK226, BK227, HB⟩ := hcut
 cases kq with
 | zero => exact absurd HA.out (by simp [spec_Choices.j0])
 | succ kj2 =>
 have H := HA.out
 clear HA
 simp only [spec_Choices.j0] at H
 replace H := iB_ H
 rcases H with ⟨rfl, H⟩ | ⟨rfl, H⟩
 {
 obtain ⟨y231, hy231⟩ : ∃ y_ : List Int, y_ = (([] : List Int)) := ⟨_, rfl⟩
 replace H : (some y231) = some r := by first | (rw [hy231]; exact H) | exact H
 have Ny231 := aM hy231
 clear hy231
 obtain rfl := Option.some.inj H
 go_wp2_with (first | ((with_reducible refine gate_dst (N := 27) rfl ?_); refine Kd.R_lit (Kd.int .i64) _ 3 ?hg (N := 27) ?hd (xs := ([] : List Int)) (inner := []) (ok := fun _ => True) (okp := fun _ => True) ?hr ?hp (fun _ hk => hk) trivial (Below.refl _ _) (Nat.le_refl _) (by simp) ?_; (case hd => rfl); (case hg => rfl); (case hr => exact qz9); (case hp => exact (Reps.none _ _)); intro v232 w38 ho39 hb hg_ hnew_; clear hg_ hnew_; (first | rw [← Ny231.out] at ho39 | (simp only [Int.reduceToNat] at ho39; rw [← Ny231.out] at ho39)); have HO233 := aM (Kd.R_lower ho39 (below_size qz1)); replace BK226 := bB_ BK226 hb; replace BK227 := bB_ BK227 hb; replace HB := bS_ hb; clear hb ho39))
 go_ret
 exact ⟨_, qzw, by (with_reducible repeat (first | apply Kd.R_alloc | apply Kd.R_drewN | apply Kd.R_drew)); exact HO233.out, qz1⟩
 }
 {
 replace H := Option.bind_eq_some_iff.mp H
 obtain ⟨t234, A400, H⟩ := H
 have A40 := aM A400
 clear A400
 replace H := Option.bind_eq_some_iff.mp H
 obtain ⟨t237, A410, H⟩ := H
 have A41 := aM A410
 clear A410
 obtain rfl := Option.some.inj H
 try go_wp2
 replace BK226 := aM (blk_drew BK226.out)
 replace BK227 := aM (blk_drew BK227.out)
 replace HB := aM (below_drew1 HB.out)
 refine start_ (n := 7) (S := fun w' => w'.cell? ⟨gb226, 0, none⟩ = some (.int .i64 a0_0) ∧ w'.cell? ⟨gb226, 1, none⟩ = some (.int .i64 a0_1) ∧ w'.cell? ⟨gb226, 2, none⟩ = some (.slice A0_2 l0_2.length c0_2) ∧ w'.cell? ⟨gb227, 0, none⟩ = some (.int .i64 a1_0) ∧ w'.cell? ⟨gb227, 1, none⟩ = some (.int .i64 a1_1) ∧ w'.cell? ⟨gb227, 2, none⟩ = some (.int .i64 a1_2) ∧ w'.cell? ⟨gb227, 3, none⟩ = some (.bool a1_3) ∧ w'.cell? ⟨gb227, 4, none⟩ = some (.int .i64 a1_4)) (ds := []) #[false, false, false, false, false, false, false] (by kernel_rfl) rfl rfl ⟨(blk_cell BK226.out 0).trans rfl, (blk_cell BK226.out 1).trans rfl, (blk_cell BK226.out 2).trans rfl, (blk_cell BK227.out 0).trans rfl, (blk_cell BK227.out 1).trans rfl, (blk_cell BK227.out 2).trans rfl, (blk_cell BK227.out 3).trans rfl, (blk_cell BK227.out 4).trans rfl⟩ (fun hHeld => ?_)
 generalize wc.drew = w42 at BK226 BK227 HB hHeld ⊢
 refine take_ (i := 0) (N := some 28) (v := ?_) (a' := ?_) #[true, false, false, false, false, false, false] rfl rfl (by kernel_rfl) qzd (Or.inl ⟨by rfl, ?_⟩) hHeld ?_ ?_
 rotate_left
 {
 rintro w' ⟨s0, s1, s2, s3, s4, s5, s6, s7⟩
 go_simp
 with_reducible rfl
 }
 rotate_left
 {
 simp only [qzs]
 rfl
 }
 refine take_ (i := 1) (N := some 29) (v := ?_) (a' := ?_) #[true, true, false, false, false, false, false] rfl rfl (by kernel_rfl) qzd (Or.inl ⟨by rfl, ?_⟩) hHeld ?_ ?_
 rotate_left
 {
 rintro w' ⟨s0, s1, s2, s3, s4, s5, s6, s7⟩
 go_simp
 with_reducible rfl
 }
 rotate_left
 {
 simp only [qzs]
 rfl
 }
 refine take_ (i := 2) (N := some 30) (v := ?_) (a' := ?_) #[true, true, true, false, false, false, false] rfl rfl (by kernel_rfl) qzd (Or.inl ⟨by rfl, ?_⟩) hHeld ?_ ?_
 rotate_left
 {
 rintro w' ⟨s0, s1, s2, s3, s4, s5, s6, s7⟩
 go_simp
 with_reducible rfl
 }
 rotate_left
 {
 simp only [qzs]
 rfl
 }
 refine take_ (i := 3) (N := some 31) (v := ?_) (a' := ?_) #[true, true, true, true, false, false, false] rfl rfl (by kernel_rfl) qzd (Or.inl ⟨by rfl, ?_⟩) hHeld ?_ ?_
 rotate_left
 {
 rintro w' ⟨s0, s1, s2, s3, s4, s5, s6, s7⟩
 go_simp
 with_reducible rfl
 }
 rotate_left
 {
 simp only [qzs]
 rfl
 }
 refine one_ (i := 4) (N := some 32) #[true, true, true, true, true, false, false] rfl rfl (by kernel_rfl) (by decide) (fun K hK => ?_)
 refine goes_ Try.func63 (by kernel_rfl) rfl #[.agg #[.int .i64 a0_0, .int .i64 a0_1, .slice A0_2 l0_2.length c0_2], .agg #[.int .i64 a1_0, .int .i64 a1_1, .int .i64 a1_2, .bool a1_3, .int .i64 a1_4]] (by rfl) rfl rfl qz2 ?_
 with_reducible refine (spec_l7Field.calls kj2 a0_0 a0_1 _ _ l0_2 a1_0 a1_1 a1_2 a1_3 a1_4 t234 _ ?side1 ?side2 A40.out).mono ?_
 (case side1 => exact qz6)
 (case side2 => exact qz28)
 rintro e w43 ⟨v235, rfl, ho0, hb⟩
 refine ⟨_, rfl, ?_⟩
 have HO236 := aM (Kd.R_lower ho0 (below_size qz1))
 replace BK226 := bB_ BK226 hb
 replace BK227 := bB_ BK227 hb
 replace HB := bS_ hb
 (try clear hb)
 (try clear hb2)
 (try clear hk)
 (try clear hi)
 (try clear ho0)
 obtain ⟨Ao44, co44, eo44⟩ := Kd.R_slice HO236.out
 (first | subst eo44 | (injection eo44 with f1_ f2_ f3_; have f4_ := f1_.symm; have f5_ := f3_.symm; clear f1_ f2_ f3_; subst f4_; subst f5_))
 refine hK.out _ _ (b3A_ BK226 ⟨(blk_cell BK227.out 0).trans rfl, (blk_cell BK227.out 1).trans rfl, (blk_cell BK227.out 2).trans rfl, (blk_cell BK227.out 3).trans rfl, (blk_cell BK227.out 4).trans rfl⟩) (fun hHeld => ?_)
 clear hK K
 refine nm_ 32 ?_
 refine one_ (i := 5) (N := some 33) #[true, true, true, true, true, true, false] rfl rfl (by kernel_rfl) (by decide) (fun K hK => ?_)
 refine goes_ Try.func62 (by kernel_rfl) rfl #[.agg #[.int .i64 a0_0, .int .i64 a0_1, .slice A0_2 l0_2.length c0_2], .agg #[.int .i64 a1_0, .int .i64 a1_1, .int .i64 a1_2, .bool a1_3, .int .i64 a1_4], .slice Ao44 t234.length co44] (by rfl) rfl rfl qz2 ?_
 with_reducible refine (spec_l7Choices.calls kj2 a0_0 a0_1 _ _ l0_2 a1_0 a1_1 a1_2 a1_3 a1_4 _ _ t234 t237 _ ?side1 ?side2 ?side3 ?side4 A41.out).mono ?_
 (case side1 => exact qz6)
 (case side2 => exact qz28)
 (case side3 => repeat (first | exact (Kd.R_reads' HO236.out).2.2 | (with_reducible refine Kd.C_alloc ?_ _) | (with_reducible refine Kd.C_drewN ?_ _) | (with_reducible refine Kd.C_drew ?_)))
 (case side4 => exact (Kd.R_reads' HO236.out).2.1)
 rintro e w45 ⟨v238, rfl, ho0, hb⟩
 refine ⟨_, rfl, ?_⟩
 have HO239 := aM (Kd.R_lower (Kd.R_new' ho0 (Kd.R_lt (rr_ HO236.out))) (below_size qz1))
 replace HO236 := aM (Kd.R_elder' (rr_ HO236.out) (Kd.R_base ho0) hb)
 replace BK226 := bB_ BK226 hb
 replace BK227 := bB_ BK227 hb
 replace HB := bS_ hb
 (try clear hb)
 (try clear hb2)
 (try clear hk)
 (try clear hi)
 (try clear ho0)
 refine hK.out _ _ (b3A_ BK226 ⟨(blk_cell BK227.out 0).trans rfl, (blk_cell BK227.out 1).trans rfl, (blk_cell BK227.out 2).trans rfl, (blk_cell BK227.out 3).trans rfl, (blk_cell BK227.out 4).trans rfl⟩) (fun hHeld => ?_)
 clear hK K
 refine nm_ 33 ?_
 refine pure_ (i := 6) (N := some 4) (v := ?_) (a' := ?_) #[true, true, true, true, true, true, true] rfl rfl (by kernel_rfl) qzd (Or.inl ⟨by rfl, ?_⟩) ?_ ?_
 rotate_left
 {
 intro w'
 go_simp
 with_reducible rfl
 }
 rotate_left
 {
 simp only [qzs]
 rfl
 }
 refine done_ (by kernel_rfl) ?_
 try go_wp2
 go_ret
 exact ⟨_, qzw, by (with_reducible repeat (first | apply Kd.R_alloc | apply Kd.R_drewN | apply Kd.R_drew)); exact Kd.R_mono HO239.out (fun _ hk => trivial), qz1⟩
 }
/-! ### spec_CrewOk: function 76 -/
mutual
def spec_CrewOk.j0 : Nat → List (S37) → Bool → Int → Int → List Int → Option (Bool)
 | 0, _, _, _, _, _ => none
 | k + 1, x1, x15, x241000, x241001, x241002 => if x15 = true then (some false) else (spec_CrewOk.l0 k x1 0 x241000 x241001 x241002)
def spec_CrewOk.l0 : Nat → List (S37) → Int → Int → Int → List Int → Option (Bool)
 | 0, _, _, _, _, _ => none
 | k + 1, x1, x5, x241000, x241001, x241002 => if x5 < (x1.length : Int) then (if 0 ≤ x5 then ((spec_l1In.f ((rd_T37 x1 x5).f0) 1 99).bind fun t244 => (if t244 = true then ((spec_l7Free.f x241000 x241001 x241002 ((rd_T37 x1 x5).f1)).bind fun t245 => (if t245 = true then (if ((rd_T37 x1 x5).f2) = (-1) then ((spec_l1In.f ((rd_T37 x1 x5).f4) 0 1000000).bind fun t246 => (if t246 = true then (if x5 > 0 then (if 0 ≤ (wrap64 (x5 - 1)) then (if (wrap64 (x5 - 1)) < (x1.length : Int) then (spec_CrewOk.j2 k x1 x5 (decide (((rd_T37 x1 (wrap64 (x5 - 1))).f0) ≥ ((rd_T37 x1 x5).f0))) x241000 x241001 x241002 ((rd_T37 x1 x5).f0) ((rd_T37 x1 x5).f1) ((rd_T37 x1 x5).f2) ((rd_T37 x1 x5).f3) ((rd_T37 x1 x5).f4)) else (none)) else (none)) else (spec_CrewOk.j2 k x1 x5 false x241000 x241001 x241002 ((rd_T37 x1 x5).f0) ((rd_T37 x1 x5).f1) ((rd_T37 x1 x5).f2) ((rd_T37 x1 x5).f3) ((rd_T37 x1 x5).f4))) else (spec_CrewOk.j2 k x1 x5 true x241000 x241001 x241002 ((rd_T37 x1 x5).f0) ((rd_T37 x1 x5).f1) ((rd_T37 x1 x5).f2) ((rd_T37 x1 x5).f3) ((rd_T37 x1 x5).f4)))) else ((spec_l7Free.f x241000 x241001 x241002 ((rd_T37 x1 x5).f2)).bind fun t248 => (if t248 = true then ((spec_l1In.f ((rd_T37 x1 x5).f4) 0 1000000).bind fun t249 => (if t249 = true then (if x5 > 0 then (if 0 ≤ (wrap64 (x5 - 1)) then (if (wrap64 (x5 - 1)) < (x1.length : Int) then (spec_CrewOk.j2 k x1 x5 (decide (((rd_T37 x1 (wrap64 (x5 - 1))).f0) ≥ ((rd_T37 x1 x5).f0))) x241000 x241001 x241002 ((rd_T37 x1 x5).f0) ((rd_T37 x1 x5).f1) ((rd_T37 x1 x5).f2) ((rd_T37 x1 x5).f3) ((rd_T37 x1 x5).f4)) else (none)) else (none)) else (spec_CrewOk.j2 k x1 x5 false x241000 x241001 x241002 ((rd_T37 x1 x5).f0) ((rd_T37 x1 x5).f1) ((rd_T37 x1 x5).f2) ((rd_T37 x1 x5).f3) ((rd_T37 x1 x5).f4))) else (spec_CrewOk.j2 k x1 x5 true x241000 x241001 x241002 ((rd_T37 x1 x5).f0) ((rd_T37 x1 x5).f1) ((rd_T37 x1 x5).f2) ((rd_T37 x1 x5).f3) ((rd_T37 x1 x5).f4)))) else (spec_CrewOk.j2 k x1 x5 true x241000 x241001 x241002 ((rd_T37 x1 x5).f0) ((rd_T37 x1 x5).f1) ((rd_T37 x1 x5).f2) ((rd_T37 x1 x5).f3) ((rd_T37 x1 x5).f4))))) else (spec_CrewOk.j2 k x1 x5 true x241000 x241001 x241002 ((rd_T37 x1 x5).f0) ((rd_T37 x1 x5).f1) ((rd_T37 x1 x5).f2) ((rd_T37 x1 x5).f3) ((rd_T37 x1 x5).f4)))) else (spec_CrewOk.j2 k x1 x5 true x241000 x241001 x241002 ((rd_T37 x1 x5).f0) ((rd_T37 x1 x5).f1) ((rd_T37 x1 x5).f2) ((rd_T37 x1 x5).f3) ((rd_T37 x1 x5).f4)))) else (none)) else (some true)
def spec_CrewOk.j2 : Nat → List (S37) → Int → Bool → Int → Int → List Int → Int → Int → Int → Bool → Int → Option (Bool)
 | 0, _, _, _, _, _, _, _, _, _, _, _ => none
 | k + 1, x1, x5, x69, x241000, x241001, x241002, x244000, x244001, x244002, x244003, x244004 => if x69 = true then (some false) else (spec_CrewOk.l1 k x1 x5 0 x241000 x241001 x241002 x244000 x244001 x244002 x244003 x244004)
def spec_CrewOk.l1 : Nat → List (S37) → Int → Int → Int → Int → List Int → Int → Int → Int → Bool → Int → Option (Bool)
 | 0, _, _, _, _, _, _, _, _, _, _, _ => none
 | k + 1, x1, x5, x7, x241000, x241001, x241002, x244000, x244001, x244002, x244003, x244004 => if x7 < x5 then (if 0 ≤ x7 then (if x7 < (x1.length : Int) then (if ((rd_T37 x1 x7).f1) = x244001 then (some false) else (spec_CrewOk.l1 k x1 x5 (wrap64 (x7 + 1)) x241000 x241001 x241002 x244000 x244001 x244002 x244003 x244004)) else (none)) else (none)) else (spec_CrewOk.l0 k x1 (wrap64 (x5 + 1)) x241000 x241001 x241002)
end
def spec_CrewOk.f (k : Nat) (a0_0 : Int) (a0_1 : Int) (l0_2 : List Int) (l1 : List (S37)) : Option (Bool) := (spec_FloorOk.f k a0_0 a0_1 l0_2).bind fun t241 => (if t241 = true then (spec_CrewOk.j0 k l1 (decide ((l1.length : Int) > 20)) a0_0 a0_1 l0_2) else (spec_CrewOk.j0 k l1 true a0_0 a0_1 l0_2))
theorem spec_CrewOk.mono_l : ∀ k, (∀ y0 y1 y2 y3 y4, LeO (spec_CrewOk.j0 k y0 y1 y2 y3 y4) (spec_CrewOk.j0 (k + 1) y0 y1 y2 y3 y4)) ∧ (∀ y0 y1 y2 y3 y4, LeO (spec_CrewOk.l0 k y0 y1 y2 y3 y4) (spec_CrewOk.l0 (k + 1) y0 y1 y2 y3 y4)) ∧ (∀ y0 y1 y2 y3 y4 y5 y6 y7 y8 y9 y10, LeO (spec_CrewOk.j2 k y0 y1 y2 y3 y4 y5 y6 y7 y8 y9 y10) (spec_CrewOk.j2 (k + 1) y0 y1 y2 y3 y4 y5 y6 y7 y8 y9 y10)) ∧ (∀ y0 y1 y2 y3 y4 y5 y6 y7 y8 y9 y10, LeO (spec_CrewOk.l1 k y0 y1 y2 y3 y4 y5 y6 y7 y8 y9 y10) (spec_CrewOk.l1 (k + 1) y0 y1 y2 y3 y4 y5 y6 y7 y8 y9 y10))
 | 0 => ⟨fun _ _ _ _ _ r h => by simp [spec_CrewOk.j0] at h, fun _ _ _ _ _ r h => by simp [spec_CrewOk.l0] at h, fun _ _ _ _ _ _ _ _ _ _ _ r h => by simp [spec_CrewOk.j2] at h, fun _ _ _ _ _ _ _ _ _ _ _ r h => by simp [spec_CrewOk.l1] at h⟩
 | k + 1 => by
  obtain ⟨ih0, ih1, ih2, ih3⟩ := spec_CrewOk.mono_l k
  refine ⟨?_, ?_, ?_, ?_⟩
  {
  intro y0 y1 y2 y3 y4
  unfold spec_CrewOk.j0
  have j0 := @spec_FloorOk.mono
  exact qL
  }
  {
  intro y0 y1 y2 y3 y4
  unfold spec_CrewOk.l0
  have j0 := @spec_FloorOk.mono
  exact qL
  }
  {
  intro y0 y1 y2 y3 y4 y5 y6 y7 y8 y9 y10
  unfold spec_CrewOk.j2
  have j0 := @spec_FloorOk.mono
  exact qL
  }
  {
  intro y0 y1 y2 y3 y4 y5 y6 y7 y8 y9 y10
  unfold spec_CrewOk.l1
  have j0 := @spec_FloorOk.mono
  exact qL
  }
theorem spec_CrewOk.mono : ∀ a0 a1 a2 a3 k, LeO (spec_CrewOk.f k a0 a1 a2 a3) (spec_CrewOk.f (k + 1) a0 a1 a2 a3) := by
 intro a0 a1 a2 a3 k
 obtain ⟨ih0, ih1, ih2, ih3⟩ := spec_CrewOk.mono_l k
 unfold spec_CrewOk.f
 have j0 := @spec_FloorOk.mono
 exact qL
def spec_CrewOk.T7 : Bool × List (List Nat × List Nat) := (true, [([], []), ([0], [0]), ([1], [1]), ([2], [2]), ([3, 2], [3]), ([4], [4]), ([4], [4]), ([6, 4], [4, 6]), ([5, 7, 4, 4], [4, 5, 7]), ([8, 4], [4, 8]), ([4, 9], [4, 9]), ([10, 8], [10]), ([11], [11]), ([12, 11], [11, 12]), ([13, 11], [11, 13]), ([14, 11, 11], [11, 14]), ([15], [15]), ([15], [15]), ([17, 15], [15, 17]), ([16, 18, 15, 15], [15, 16, 18]), ([19, 15], [15, 19]), ([15, 20, 11], [11, 15, 20]), ([11, 21], [11, 21]), ([22, 19], [22]), ([23], [23]), ([24, 23], [23, 24]), ([25, 23, 23], [23, 25]), ([26, 23], [23, 26]), ([23, 27], [23, 27]), ([28, 26], [28]), ([29], [29]), ([30, 29], [29, 30]), ([31, 29, 29], [29, 31]), ([32], [32]), ([32], [32]), ([34, 32], [32, 34]), ([33, 35, 32], [32, 33, 35]), ([36, 32], [32, 36]), ([37, 32], [32, 37]), ([32], [32]), ([39, 32], [32, 39]), ([38, 40, 32], [32, 38, 40]), ([32, 41, 29], [29, 32, 41]), ([29, 42], [29, 42])])
def spec_CrewOk.B7 : List Nat := [0, 1, 3, 7, 15, 31, 31, 95, 255, 511, 1023, 2047, 4095, 8191, 16383, 32767, 65535, 65535, 196607, 524287, 1048575, 2097151, 4194303, 8388607, 16777215, 33554431, 67108863, 134217727, 268435455, 536870911, 1073741823, 2147483647, 4294967295, 8589934591, 8589934591, 25769803775, 68719476735, 137438953471, 274877906943, 8589934591, 558345748479, 2199023255551, 4398046511103, 8796093022207]
theorem spec_CrewOk.tab7 : rtab .any (opsOf Try.f76 7) = spec_CrewOk.T7 := by kernel_rfl
theorem spec_CrewOk.bits7 : waitsOk spec_CrewOk.T7.2 spec_CrewOk.B7 = true := by kernel_rfl
def spec_CrewOk.T12 : Bool × List (List Nat × List Nat) := (true, [([], []), ([], []), ([0, 1], [0, 1]), ([2], [2]), ([3], [3]), ([], []), ([5], [5]), ([4, 6], [4, 6])])
def spec_CrewOk.B12 : List Nat := [0, 0, 3, 7, 15, 0, 32, 127]
theorem spec_CrewOk.tab12 : rtab .any (opsOf Try.f76 12) = spec_CrewOk.T12 := by kernel_rfl
theorem spec_CrewOk.bits12 : waitsOk spec_CrewOk.T12.2 spec_CrewOk.B12 = true := by kernel_rfl
theorem spec_CrewOk.calls (k : Nat) (a0_0 : Int) (a0_1 : Int) (A0_2 : Option Addr) (c0_2 : Nat) (l0_2 : List Int) (A1 : Option Addr) (c1 : Nat) (l1 : List (S37)) (r : Bool) (w : World) (hr0_2 : Kd.C (Kd.int .i64) w A0_2 l0_2.length l0_2) (hc0_2 : l0_2.length ≤ c0_2) (hr1 : Kd.C k37 w A1 l1.length l1) (hc1 : l1.length ≤ c1) (h : spec_CrewOk.f k a0_0 a0_1 l0_2 l1 = some r) :
  Calls Try.prog 76 #[.agg #[.int .i64 a0_0, .int .i64 a0_1, .slice A0_2 l0_2.length c0_2], .slice A1 l1.length c1] w fun e w' => e = .returned (.bool r) ∧ Below w.heap.size w w' := by
 have hu43 := Try.underlying43
 have hu37 := Try.underlying37
 have HR0_2 := aM hr0_2
 have HC0_2 := aM hc0_2
 clear hr0_2 hc0_2
 have HR1 := aM hr1
 have HC1 := aM hc1
 clear hr1 hc1
 have HB := aM (Below.refl w.heap.size w)
 unfold spec_CrewOk.f at h
 have H := h
 clear h
 have HC3 := aM H
 clear H
 go_enter Try.func76, Try.ntmps76
 go_upto_region 1 with (first | ((with_reducible refine gate_dst (N := 2) rfl ?_); (try (refine gate_guard (by rfl) ?_; dsimp only)); refine bx_ 2 #[.int .i64 a0_0, .int .i64 a0_1, .slice A0_2 l0_2.length c0_2] 43 ?_; intro gb240 hg w4 hbox hb; have BK240 := aM (hbox); have GW240 := aM (bz_ w hg qz1); have GE240 := GW240; replace HB := bS_ hb; clear hb hbox hg))
 (try simp only [Act.put, List.setIfInBounds_toArray, List.set_cons_zero, List.set_cons_succ])
 go_cut [15] (fun v15 wc => ∃ (kq : Nat) (x15_2 : Bool), v15 = .bool x15_2 ∧ Aside0 (spec_CrewOk.j0 kq l1 x15_2 a0_0 a0_1 l0_2 = some r) ∧ Aside0 (kq ≤ k) ∧ Aside0 (wc.heap[gb240]? = some (.cells #[.int .i64 a0_0, .int .i64 a0_1, (.slice A0_2 l0_2.length c0_2)] 43 (0, 0))) ∧ Aside0 (Below w.heap.size w wc))
 case first =>
  have H := HC3.out
  clear HC3
  replace H := Option.bind_eq_some_iff.mp H
  obtain ⟨t241, A50, H⟩ := H
  have A5 := aM A50
  clear A50
  replace H := iB_ H
  rcases H with ⟨rfl, H⟩ | ⟨rfl, H⟩
  {
  have H' := aM H
  clear H
  obtain ⟨hcz7_0, hcz7_1, hcz7_2, hfz7_0, hfz7_1, hfz7_2⟩ := b6_ BK240.out
  go_wp2_with (first | ((with_reducible refine gate_callee (f := 60) rfl ?_); refine goesL_ (some 9) rfl rfl Try.func60 (by kernel_rfl) rfl #[.agg #[.int .i64 a0_0, .int .i64 a0_1, .slice A0_2 l0_2.length c0_2]] rfl qz2 ?_; (with_reducible refine (spec_FloorOk.calls k a0_0 a0_1 _ _ l0_2 true _ ?_ ?_ A5.out).mono ?_); exact qz6; exact qz28; rintro e w8 ⟨rfl, hb⟩; refine ⟨_, rfl, ?_⟩; replace BK240 := bB_ BK240 hb; replace HB := bS_ hb; (try clear hb)))
  go_meet
  case rel => exact ⟨_, (decide ((l1.length : Int) > 20)), qz7, H', ⟨by first | omega | exact Nat.le_refl _⟩, ⟨bk_ BK240.out⟩, ⟨qz1⟩⟩
  }
  {
  have H' := aM H
  clear H
  obtain ⟨hcz9_0, hcz9_1, hcz9_2, hfz9_0, hfz9_1, hfz9_2⟩ := b6_ BK240.out
  go_wp2_with (first | ((with_reducible refine gate_callee (f := 60) rfl ?_); refine goesL_ (some 9) rfl rfl Try.func60 (by kernel_rfl) rfl #[.agg #[.int .i64 a0_0, .int .i64 a0_1, .slice A0_2 l0_2.length c0_2]] rfl qz2 ?_; (with_reducible refine (spec_FloorOk.calls k a0_0 a0_1 _ _ l0_2 false _ ?_ ?_ A5.out).mono ?_); exact qz6; exact qz28; rintro e w10 ⟨rfl, hb⟩; refine ⟨_, rfl, ?_⟩; replace BK240 := bB_ BK240 hb; replace HB := bS_ hb; (try clear hb)))
  go_meet
  case rel => exact ⟨_, (true), qz7, H', ⟨by first | omega | exact Nat.le_refl _⟩, ⟨bk_ BK240.out⟩, ⟨qz1⟩⟩
  }
 case rest =>
 clear HC3
 try clear c1
 obtain ⟨kq, x15_2, rfl, HA, HJ2, BK240, HB⟩ := hcut
 cases kq with
 | zero => exact absurd HA.out (by simp [spec_CrewOk.j0])
 | succ kj2 =>
 have H := HA.out
 clear HA
 simp only [spec_CrewOk.j0] at H
 replace H := iB_ H
 rcases H with ⟨rfl, H⟩ | ⟨rfl, H⟩
 {
 obtain rfl := Option.some.inj H
 go_wp2
 go_ret
 exact ⟨qzw, qz1⟩
 }
 {
 have H' := aM H
 clear H
 go_wp2
 go_loopg [5] kj2 (fun kq v5 w' => ∃ (x5_2 : Int), v5 = .int .i64 x5_2 ∧ Aside0 (spec_CrewOk.l0 kq l1 x5_2 a0_0 a0_1 l0_2 = some r) ∧ Aside0 (kq ≤ kj2) ∧ Aside0 (w'.heap[gb240]? = some (.cells #[.int .i64 a0_0, .int .i64 a0_1, (.slice A0_2 l0_2.length c0_2)] 43 (0, 0))) ∧ Aside0 (Below w.heap.size w w'))
 case atStart => exact ⟨(0), qz7, H', ⟨Nat.le_refl _⟩, ⟨bk_ BK240.out⟩, ⟨qz1⟩⟩
 case round =>
 clear H'
 try clear c1
 try clear c11
 obtain ⟨x5_2, rfl, HA, HK2, BK240, HB⟩ := hrel
 cases gk with
 | zero => exact absurd HA.out (by simp [spec_CrewOk.l0])
 | succ k2 =>
 have H := HA.out
 clear HA
 simp only [spec_CrewOk.l0] at H
 replace H := iE_ H
 rcases H with ⟨c12b0, H⟩ | ⟨c12b0, H⟩
 {
 replace H := iD_ H
 obtain ⟨c13b0, H⟩ := H
 have HC14 := aM H
 clear H
 have p242 : (0 ≤ (x5_2 : Int)) = True := et_
 have q242 : (x5_2 < (l1.length : Int)) = True := et_
 obtain ⟨ad242, e242, hx242_0, hx242_1, hx242_2, hx242_3, hx242_4⟩ := tC5_ (at_T37 HR1.out x5_2 dt_ dt_)
 cases e242
 go_upto_region 7 with (first | ((with_reducible refine gate_dst (N := 6) rfl ?_); (try (refine gate_guard (by rfl) ?_; dsimp only)); refine bx_ 6 #[.int .i64 0, .int .i64 0, .int .i64 0, .bool false, .int .i64 0] 37 ?_; intro gb243 hg w15 hbox hb; have BK243 := aM (hbox); have GW243 := aM (bz_ w hg qz1); have GE243 := GW243; replace HB := bS_ hb; obtain ⟨NB240_243, NB243_240⟩ := nb_ hg (bk_ BK240.out); replace BK240 := bB_ BK240 hb; clear hb hbox hg; have hnb16 := NB243_240.out; have hnc16 := NB240_243.out; obtain ⟨hcz17_0, hcz17_1, hcz17_2, hcz17_3, hcz17_4, hfz17_0, hfz17_1, hfz17_2, hfz17_3, hfz17_4⟩ := b10_ BK243.out))
 (try simp only [Act.put, List.setIfInBounds_toArray, List.set_cons_zero, List.set_cons_succ])
 go_cut [69] (fun v69 wc => ∃ (kq : Nat) (x69_13 : Bool), v69 = .bool x69_13 ∧ Aside0 (spec_CrewOk.j2 kq l1 x5_2 x69_13 a0_0 a0_1 l0_2 ((rd_T37 l1 x5_2).f0) ((rd_T37 l1 x5_2).f1) ((rd_T37 l1 x5_2).f2) ((rd_T37 l1 x5_2).f3) ((rd_T37 l1 x5_2).f4) = some r) ∧ Aside0 (kq ≤ k2) ∧ Aside0 (wc.heap[gb240]? = some (.cells #[.int .i64 a0_0, .int .i64 a0_1, (.slice A0_2 l0_2.length c0_2)] 43 (0, 0))) ∧ Aside0 (wc.heap[gb243]? = some (.cells #[.int .i64 ((rd_T37 l1 x5_2).f0), .int .i64 ((rd_T37 l1 x5_2).f1), .int .i64 ((rd_T37 l1 x5_2).f2), .bool ((rd_T37 l1 x5_2).f3), .int .i64 ((rd_T37 l1 x5_2).f4)] 37 (0, 0))) ∧ Aside0 (Below w.heap.size w wc))
 case first =>
  have H := HC14.out
  clear HC14
  replace H := Option.bind_eq_some_iff.mp H
  obtain ⟨t244, A180, H⟩ := H
  have A18 := aM A180
  clear A180
  replace H := iB_ H
  rcases H with ⟨rfl, H⟩ | ⟨rfl, H⟩
  {
  replace H := Option.bind_eq_some_iff.mp H
  obtain ⟨t245, A200, H⟩ := H
  have A20 := aM A200
  clear A200
  replace H := iB_ H
  rcases H with ⟨rfl, H⟩ | ⟨rfl, H⟩
  {
  replace H := iQ_ H
  rcases H with ⟨c22b0, c22b1, H⟩ | ⟨c22, c22b0, c22b1, H⟩
  {
  (first | rw [c22b0] | (simp only [i64_w, i32_w]; rw [c22b0]) | rw [@decide_eq_true _ _ (of_decide_eq_true c22b0)] | rw [@decide_eq_true _ _ (of_decide_eq_true c22b1)] | skip)
  replace H := Option.bind_eq_some_iff.mp H
  obtain ⟨t246, A230, H⟩ := H
  have A23 := aM A230
  clear A230
  replace H := iB_ H
  rcases H with ⟨rfl, H⟩ | ⟨rfl, H⟩
  {
  replace H := iE_ H
  rcases H with ⟨c25b0, H⟩ | ⟨c25b0, H⟩
  {
  obtain ⟨ji26, hji26⟩ : ∃ j_ : Int, (wrap64 (x5_2 - 1)) = j_ := ⟨_, rfl⟩
  replace H : (if 0 ≤ (ji26) then (if (ji26) < (l1.length : Int) then (spec_CrewOk.j2 k2 l1 x5_2 (decide (((rd_T37 l1 (ji26)).f0) ≥ ((rd_T37 l1 x5_2).f0))) a0_0 a0_1 l0_2 ((rd_T37 l1 x5_2).f0) ((rd_T37 l1 x5_2).f1) ((rd_T37 l1 x5_2).f2) ((rd_T37 l1 x5_2).f3) ((rd_T37 l1 x5_2).f4)) else (none)) else (none)) = some r := by first | (rw [hji26] at H; exact H) | (simp only [hji26] at H ⊢; exact H)
  (try rw [hji26] at A18)
  (try rw [hji26] at A20)
  (try rw [hji26] at A23)
  have hji26w : (IntKind.i64.wrap (x5_2 - 1)) = ji26 := (i64_w _).trans hji26
  replace H := iD_ H
  obtain ⟨c27b0, H⟩ := H
  replace H := iD_ H
  obtain ⟨c28b0, H⟩ := H
  have H' := aM H
  clear H
  try go_wp2
  generalize hq_ : (((((w15.setCell ⟨gb243, 0, none⟩ (.int .i64 ((rd_T37 l1 x5_2).f0))).setCell ⟨gb243, 1, none⟩ (.int .i64 ((rd_T37 l1 x5_2).f1))).setCell ⟨gb243, 2, none⟩ (.int .i64 ((rd_T37 l1 x5_2).f2))).setCell ⟨gb243, 3, none⟩ (.bool ((rd_T37 l1 x5_2).f3))).setCell ⟨gb243, 4, none⟩ (.int .i64 ((rd_T37 l1 x5_2).f4))) = w29
  replace BK240 := bqo_ hq_ BK240
  replace BK243 := bq5_ hq_ BK243
  replace HB : Aside0 (Below w.heap.size w w29) := ⟨by rw [← hq_]; exact qz1⟩
  clear hq_
  replace BK240 := aM (blk_drew BK240.out)
  replace BK243 := aM (blk_drew BK243.out)
  replace HB := aM (below_drew1 HB.out)
  have p247 : (0 ≤ ((ji26) : Int)) = True := et_
  have q247 : ((ji26) < (l1.length : Int)) = True := et_
  obtain ⟨ad247, e247, hx247_0, hx247_1, hx247_2, hx247_3, hx247_4⟩ := at_T37 HR1.out (ji26) dt_ dt_
  have hw247_4 := hx247_4
  have hw247_3 := hx247_3
  have hw247_2 := hx247_2
  have hw247_1 := hx247_1
  have hw247_0 := hx247_0
  obtain rfl := iJ_ e247
  replace hx247_0 := cB_ hx247_0
  replace hx247_1 := cB_ hx247_1
  replace hx247_2 := cB_ hx247_2
  replace hx247_3 := cB_ hx247_3
  replace hx247_4 := cB_ hx247_4
  refine start_ (n := 44) (S := fun w' => w'.cell? ⟨gb243, 0, none⟩ = some (.int .i64 ((rd_T37 l1 x5_2).f0)) ∧ w'.cell? ⟨gb243, 1, none⟩ = some (.int .i64 ((rd_T37 l1 x5_2).f1)) ∧ w'.cell? ⟨gb243, 2, none⟩ = some (.int .i64 ((rd_T37 l1 x5_2).f2)) ∧ w'.cell? ⟨gb243, 3, none⟩ = some (.bool ((rd_T37 l1 x5_2).f3)) ∧ w'.cell? ⟨gb243, 4, none⟩ = some (.int .i64 ((rd_T37 l1 x5_2).f4)) ∧ w'.cell? ⟨gb240, 0, none⟩ = some (.int .i64 a0_0) ∧ w'.cell? ⟨gb240, 1, none⟩ = some (.int .i64 a0_1) ∧ w'.cell? ⟨gb240, 2, none⟩ = some (.slice A0_2 l0_2.length c0_2) ∧ w'.cell? (ad242.add (((ji26)).toNat * 5)) = some (.int .i64 ((rd_T37 l1 (ji26)).f0)) ∧ w'.cell? ⟨(ad242.add (((ji26)).toNat * 5)).block, (ad242.add (((ji26)).toNat * 5)).off + 1, none⟩ = some (.int .i64 ((rd_T37 l1 (ji26)).f1)) ∧ w'.cell? ⟨(ad242.add (((ji26)).toNat * 5)).block, (ad242.add (((ji26)).toNat * 5)).off + 2, none⟩ = some (.int .i64 ((rd_T37 l1 (ji26)).f2)) ∧ w'.cell? ⟨(ad242.add (((ji26)).toNat * 5)).block, (ad242.add (((ji26)).toNat * 5)).off + 3, none⟩ = some (.bool ((rd_T37 l1 (ji26)).f3)) ∧ w'.cell? ⟨(ad242.add (((ji26)).toNat * 5)).block, (ad242.add (((ji26)).toNat * 5)).off + 4, none⟩ = some (.int .i64 ((rd_T37 l1 (ji26)).f4))) (ds := []) #[false, false, false, false, false, false, false, false, false, false, false, false, false, false, false, false, false, false, false, false, false, false, false, false, false, false, false, false, false, false, false, false, false, false, false, false, false, false, false, false, false, false, false, false] (by kernel_rfl) rfl rfl ⟨(blk_cell BK243.out 0).trans rfl, (blk_cell BK243.out 1).trans rfl, (blk_cell BK243.out 2).trans rfl, (blk_cell BK243.out 3).trans rfl, (blk_cell BK243.out 4).trans rfl, (blk_cell BK240.out 0).trans rfl, (blk_cell BK240.out 1).trans rfl, (blk_cell BK240.out 2).trans rfl, (cB_ hw247_0), (cB_ hw247_1), (cB_ hw247_2), (cB_ hw247_3), (cB_ hw247_4)⟩ (fun hHeld => ?_); refine with_tabW spec_CrewOk.tab7 spec_CrewOk.bits7 (fun HT_ HW_ => ?_)
  generalize w29.drew = w30 at BK240 BK243 HB hx247_0 hx247_1 hx247_2 hx247_3 hx247_4 hHeld ⊢
  refine pI_ 0 (bqz 44 1) ?_
  refine sI13_ 1 ?_
  refine oI_ 2 28 (bqz 44 7) (fun K hK => ?_)
  refine goes_ Try.func98 (by kernel_rfl) rfl #[.int .i64 ((rd_T37 l1 x5_2).f0), .int .i64 1, .int .i64 99] (by rfl) rfl rfl qz2 ?_
  with_reducible refine (spec_l1In.calls ((rd_T37 l1 x5_2).f0) 1 99 true _ A18.out).mono ?_
  rintro e w' ⟨rfl, ⟨nd, rfl⟩⟩
  refine ⟨_, rfl, ?_⟩
  refine hK.out _ _ (b5A_ BK243 (b3A_ BK240 ⟨(cB_ hw247_0), (cB_ hw247_1), (cB_ hw247_2), (cB_ hw247_3), (cB_ hw247_4)⟩)) (fun hHeld => ?_)
  clear hK K
  refine nm_ 28 ?_
  refine jI_ 3 ?_
  refine jI_ 4 ?_
  refine jI_ 6 ?_
  refine sI13_ 5 ?_
  refine sI13_ 7 ?_
  refine oI_ 8 34 (bqz 44 511) (fun K hK => ?_)
  refine goes_ Try.func61 (by kernel_rfl) rfl #[.agg #[.int .i64 a0_0, .int .i64 a0_1, .slice A0_2 l0_2.length c0_2], .int .i64 ((rd_T37 l1 x5_2).f1)] (by rfl) rfl rfl qz2 ?_
  with_reducible refine (spec_l7Free.calls a0_0 a0_1 _ _ l0_2 ((rd_T37 l1 x5_2).f1) true _ ?side1 ?side2 A20.out).mono ?_
  (case side1 => exact qz31)
  (case side2 => exact qz28)
  rintro e w31 ⟨rfl, hb⟩
  refine ⟨_, rfl, ?_⟩
  replace BK240 := bB_ BK240 hb
  replace BK243 := bB_ BK243 hb
  replace HB := bS_ hb
  (try clear hb)
  (try clear hb2)
  (try clear hk)
  (try clear hi)
  refine hK.out _ _ (b5A_ BK243 (b3A_ BK240 ⟨(cB_ hw247_0), (cB_ hw247_1), (cB_ hw247_2), (cB_ hw247_3), (cB_ hw247_4)⟩)) (fun hHeld => ?_)
  clear hK K
  refine nm_ 34 ?_
  refine pI_ 9 (bqz 44 1023) ?_
  refine jI_ 10 ?_
  refine jI_ 11 ?_
  refine jI_ 12 ?_
  refine sI13_ 13 ?_
  refine jI_ 14 ?_
  refine jI_ 15 ?_
  refine jU_ 16 ?_
  refine jU_ 17 ?_
  refine jU_ 18 ?_
  refine jU_ 19 ?_
  refine jU_ 20 ?_
  refine jI_ 21 ?_
  refine jI_ 22 ?_
  refine jI_ 23 ?_
  refine jI_ 24 ?_
  refine sI13_ 25 ?_
  refine oI_ 26 52 (bqz 44 134217727) (fun K hK => ?_)
  refine goes_ Try.func98 (by kernel_rfl) rfl #[.int .i64 ((rd_T37 l1 x5_2).f4), .int .i64 0, .int .i64 1000000] (by rfl) rfl rfl qz2 ?_
  with_reducible refine (spec_l1In.calls ((rd_T37 l1 x5_2).f4) 0 1000000 true _ A23.out).mono ?_
  rintro e w' ⟨rfl, ⟨nd, rfl⟩⟩
  refine ⟨_, rfl, ?_⟩
  refine hK.out _ _ (b5A_ BK243 (b3A_ BK240 ⟨(cB_ hw247_0), (cB_ hw247_1), (cB_ hw247_2), (cB_ hw247_3), (cB_ hw247_4)⟩)) (fun hHeld => ?_)
  clear hK K
  refine nm_ 52 ?_
  refine jI_ 27 ?_
  refine jI_ 28 ?_
  refine jI_ 29 ?_
  refine jI_ 30 ?_
  refine jI_ 31 ?_
  refine jI_ 32 ?_
  refine jI_ 33 ?_
  refine jI_ 34 ?_
  refine jI_ 35 ?_
  refine jI_ 36 ?_
  refine jI_ 37 ?_
  refine jI_ 39 ?_
  refine sI13_ 38 ?_
  refine sI13_ 40 ?_
  refine jI_ 41 ?_
  refine jI_ 42 ?_
  refine jI_ 43 ?_
  refine dN_ ?_
  try go_wp2
  go_meet
  case rel => exact ⟨_, (decide (((rd_T37 l1 (ji26)).f0) ≥ ((rd_T37 l1 x5_2).f0))), (by first | rfl | (simp; done) | (simp only [← hji26] <;> (first | rfl | simp)) | (simp [*]; done)), H', ⟨by have := HJ2.out; have := HK2.out; first | omega | exact Nat.le_refl _⟩, ⟨bk_ BK240.out⟩, ⟨bk_ BK243.out⟩, ⟨qz1⟩⟩
  }
  {
  have H' := aM H
  clear H
  try go_wp2
  generalize hq_ : (((((w15.setCell ⟨gb243, 0, none⟩ (.int .i64 ((rd_T37 l1 x5_2).f0))).setCell ⟨gb243, 1, none⟩ (.int .i64 ((rd_T37 l1 x5_2).f1))).setCell ⟨gb243, 2, none⟩ (.int .i64 ((rd_T37 l1 x5_2).f2))).setCell ⟨gb243, 3, none⟩ (.bool ((rd_T37 l1 x5_2).f3))).setCell ⟨gb243, 4, none⟩ (.int .i64 ((rd_T37 l1 x5_2).f4))) = w32
  replace BK240 := bqo_ hq_ BK240
  replace BK243 := bq5_ hq_ BK243
  replace HB : Aside0 (Below w.heap.size w w32) := ⟨by rw [← hq_]; exact qz1⟩
  clear hq_
  replace BK240 := aM (blk_drew BK240.out)
  replace BK243 := aM (blk_drew BK243.out)
  replace HB := aM (below_drew1 HB.out)
  refine start_ (n := 44) (S := fun w' => w'.cell? ⟨gb243, 0, none⟩ = some (.int .i64 ((rd_T37 l1 x5_2).f0)) ∧ w'.cell? ⟨gb243, 1, none⟩ = some (.int .i64 ((rd_T37 l1 x5_2).f1)) ∧ w'.cell? ⟨gb243, 2, none⟩ = some (.int .i64 ((rd_T37 l1 x5_2).f2)) ∧ w'.cell? ⟨gb243, 3, none⟩ = some (.bool ((rd_T37 l1 x5_2).f3)) ∧ w'.cell? ⟨gb243, 4, none⟩ = some (.int .i64 ((rd_T37 l1 x5_2).f4)) ∧ w'.cell? ⟨gb240, 0, none⟩ = some (.int .i64 a0_0) ∧ w'.cell? ⟨gb240, 1, none⟩ = some (.int .i64 a0_1) ∧ w'.cell? ⟨gb240, 2, none⟩ = some (.slice A0_2 l0_2.length c0_2)) (ds := []) #[false, false, false, false, false, false, false, false, false, false, false, false, false, false, false, false, false, false, false, false, false, false, false, false, false, false, false, false, false, false, false, false, false, false, false, false, false, false, false, false, false, false, false, false] (by kernel_rfl) rfl rfl ⟨(blk_cell BK243.out 0).trans rfl, (blk_cell BK243.out 1).trans rfl, (blk_cell BK243.out 2).trans rfl, (blk_cell BK243.out 3).trans rfl, (blk_cell BK243.out 4).trans rfl, (blk_cell BK240.out 0).trans rfl, (blk_cell BK240.out 1).trans rfl, (blk_cell BK240.out 2).trans rfl⟩ (fun hHeld => ?_); refine with_tabW spec_CrewOk.tab7 spec_CrewOk.bits7 (fun HT_ HW_ => ?_)
  generalize w32.drew = w33 at BK240 BK243 HB hHeld ⊢
  refine pI_ 0 (bqz 44 1) ?_
  refine sI8_ 1 ?_
  refine oI_ 2 28 (bqz 44 7) (fun K hK => ?_)
  refine goes_ Try.func98 (by kernel_rfl) rfl #[.int .i64 ((rd_T37 l1 x5_2).f0), .int .i64 1, .int .i64 99] (by rfl) rfl rfl qz2 ?_
  with_reducible refine (spec_l1In.calls ((rd_T37 l1 x5_2).f0) 1 99 true _ A18.out).mono ?_
  rintro e w' ⟨rfl, ⟨nd, rfl⟩⟩
  refine ⟨_, rfl, ?_⟩
  refine hK.out _ _ (b5A_ BK243 ⟨(blk_cell BK240.out 0).trans rfl, (blk_cell BK240.out 1).trans rfl, (blk_cell BK240.out 2).trans rfl⟩) (fun hHeld => ?_)
  clear hK K
  refine nm_ 28 ?_
  refine jI_ 3 ?_
  refine jI_ 4 ?_
  refine jI_ 6 ?_
  refine sI8_ 5 ?_
  refine sI8_ 7 ?_
  refine oI_ 8 34 (bqz 44 511) (fun K hK => ?_)
  refine goes_ Try.func61 (by kernel_rfl) rfl #[.agg #[.int .i64 a0_0, .int .i64 a0_1, .slice A0_2 l0_2.length c0_2], .int .i64 ((rd_T37 l1 x5_2).f1)] (by rfl) rfl rfl qz2 ?_
  with_reducible refine (spec_l7Free.calls a0_0 a0_1 _ _ l0_2 ((rd_T37 l1 x5_2).f1) true _ ?side1 ?side2 A20.out).mono ?_
  (case side1 => exact qz31)
  (case side2 => exact qz28)
  rintro e w34 ⟨rfl, hb⟩
  refine ⟨_, rfl, ?_⟩
  replace BK240 := bB_ BK240 hb
  replace BK243 := bB_ BK243 hb
  replace HB := bS_ hb
  (try clear hb)
  (try clear hb2)
  (try clear hk)
  (try clear hi)
  refine hK.out _ _ (b5A_ BK243 ⟨(blk_cell BK240.out 0).trans rfl, (blk_cell BK240.out 1).trans rfl, (blk_cell BK240.out 2).trans rfl⟩) (fun hHeld => ?_)
  clear hK K
  refine nm_ 34 ?_
  refine pI_ 9 (bqz 44 1023) ?_
  refine jI_ 10 ?_
  refine jI_ 11 ?_
  refine jI_ 12 ?_
  refine sI8_ 13 ?_
  refine jI_ 14 ?_
  refine jI_ 15 ?_
  refine jU_ 16 ?_
  refine jU_ 17 ?_
  refine jU_ 18 ?_
  refine jU_ 19 ?_
  refine jU_ 20 ?_
  refine jI_ 21 ?_
  refine jI_ 22 ?_
  refine jI_ 23 ?_
  refine jI_ 24 ?_
  refine sI8_ 25 ?_
  refine oI_ 26 52 (bqz 44 134217727) (fun K hK => ?_)
  refine goes_ Try.func98 (by kernel_rfl) rfl #[.int .i64 ((rd_T37 l1 x5_2).f4), .int .i64 0, .int .i64 1000000] (by rfl) rfl rfl qz2 ?_
  with_reducible refine (spec_l1In.calls ((rd_T37 l1 x5_2).f4) 0 1000000 true _ A23.out).mono ?_
  rintro e w' ⟨rfl, ⟨nd, rfl⟩⟩
  refine ⟨_, rfl, ?_⟩
  refine hK.out _ _ (b5A_ BK243 ⟨(blk_cell BK240.out 0).trans rfl, (blk_cell BK240.out 1).trans rfl, (blk_cell BK240.out 2).trans rfl⟩) (fun hHeld => ?_)
  clear hK K
  refine nm_ 52 ?_
  refine jI_ 27 ?_
  refine jI_ 28 ?_
  refine jI_ 29 ?_
  refine jI_ 30 ?_
  refine jI_ 31 ?_
  refine jI_ 32 ?_
  refine jU_ 33 ?_
  refine jU_ 34 ?_
  refine jU_ 35 ?_
  refine jU_ 36 ?_
  refine jU_ 37 ?_
  refine jU_ 38 ?_
  refine jU_ 39 ?_
  refine jU_ 40 ?_
  refine jU_ 41 ?_
  refine jI_ 42 ?_
  refine jI_ 43 ?_
  refine dN_ ?_
  try go_wp2
  go_meet
  case rel => exact ⟨_, (false), qz7, H', ⟨by have := HJ2.out; have := HK2.out; first | omega | exact Nat.le_refl _⟩, ⟨bk_ BK240.out⟩, ⟨bk_ BK243.out⟩, ⟨qz1⟩⟩
  }
  }
  {
  have H' := aM H
  clear H
  try go_wp2
  generalize hq_ : (((((w15.setCell ⟨gb243, 0, none⟩ (.int .i64 ((rd_T37 l1 x5_2).f0))).setCell ⟨gb243, 1, none⟩ (.int .i64 ((rd_T37 l1 x5_2).f1))).setCell ⟨gb243, 2, none⟩ (.int .i64 ((rd_T37 l1 x5_2).f2))).setCell ⟨gb243, 3, none⟩ (.bool ((rd_T37 l1 x5_2).f3))).setCell ⟨gb243, 4, none⟩ (.int .i64 ((rd_T37 l1 x5_2).f4))) = w35
  replace BK240 := bqo_ hq_ BK240
  replace BK243 := bq5_ hq_ BK243
  replace HB : Aside0 (Below w.heap.size w w35) := ⟨by rw [← hq_]; exact qz1⟩
  clear hq_
  replace BK240 := aM (blk_drew BK240.out)
  replace BK243 := aM (blk_drew BK243.out)
  replace HB := aM (below_drew1 HB.out)
  refine start_ (n := 44) (S := fun w' => w'.cell? ⟨gb243, 0, none⟩ = some (.int .i64 ((rd_T37 l1 x5_2).f0)) ∧ w'.cell? ⟨gb243, 1, none⟩ = some (.int .i64 ((rd_T37 l1 x5_2).f1)) ∧ w'.cell? ⟨gb243, 2, none⟩ = some (.int .i64 ((rd_T37 l1 x5_2).f2)) ∧ w'.cell? ⟨gb243, 3, none⟩ = some (.bool ((rd_T37 l1 x5_2).f3)) ∧ w'.cell? ⟨gb243, 4, none⟩ = some (.int .i64 ((rd_T37 l1 x5_2).f4)) ∧ w'.cell? ⟨gb240, 0, none⟩ = some (.int .i64 a0_0) ∧ w'.cell? ⟨gb240, 1, none⟩ = some (.int .i64 a0_1) ∧ w'.cell? ⟨gb240, 2, none⟩ = some (.slice A0_2 l0_2.length c0_2)) (ds := []) #[false, false, false, false, false, false, false, false, false, false, false, false, false, false, false, false, false, false, false, false, false, false, false, false, false, false, false, false, false, false, false, false, false, false, false, false, false, false, false, false, false, false, false, false] (by kernel_rfl) rfl rfl ⟨(blk_cell BK243.out 0).trans rfl, (blk_cell BK243.out 1).trans rfl, (blk_cell BK243.out 2).trans rfl, (blk_cell BK243.out 3).trans rfl, (blk_cell BK243.out 4).trans rfl, (blk_cell BK240.out 0).trans rfl, (blk_cell BK240.out 1).trans rfl, (blk_cell BK240.out 2).trans rfl⟩ (fun hHeld => ?_); refine with_tabW spec_CrewOk.tab7 spec_CrewOk.bits7 (fun HT_ HW_ => ?_)
  generalize w35.drew = w36 at BK240 BK243 HB hHeld ⊢
  refine pI_ 0 (bqz 44 1) ?_
  refine sI8_ 1 ?_
  refine oI_ 2 28 (bqz 44 7) (fun K hK => ?_)
  refine goes_ Try.func98 (by kernel_rfl) rfl #[.int .i64 ((rd_T37 l1 x5_2).f0), .int .i64 1, .int .i64 99] (by rfl) rfl rfl qz2 ?_
  with_reducible refine (spec_l1In.calls ((rd_T37 l1 x5_2).f0) 1 99 true _ A18.out).mono ?_
  rintro e w' ⟨rfl, ⟨nd, rfl⟩⟩
  refine ⟨_, rfl, ?_⟩
  refine hK.out _ _ (b5A_ BK243 ⟨(blk_cell BK240.out 0).trans rfl, (blk_cell BK240.out 1).trans rfl, (blk_cell BK240.out 2).trans rfl⟩) (fun hHeld => ?_)
  clear hK K
  refine nm_ 28 ?_
  refine jI_ 3 ?_
  refine jI_ 4 ?_
  refine jI_ 6 ?_
  refine sI8_ 5 ?_
  refine sI8_ 7 ?_
  refine oI_ 8 34 (bqz 44 511) (fun K hK => ?_)
  refine goes_ Try.func61 (by kernel_rfl) rfl #[.agg #[.int .i64 a0_0, .int .i64 a0_1, .slice A0_2 l0_2.length c0_2], .int .i64 ((rd_T37 l1 x5_2).f1)] (by rfl) rfl rfl qz2 ?_
  with_reducible refine (spec_l7Free.calls a0_0 a0_1 _ _ l0_2 ((rd_T37 l1 x5_2).f1) true _ ?side1 ?side2 A20.out).mono ?_
  (case side1 => exact qz31)
  (case side2 => exact qz28)
  rintro e w37 ⟨rfl, hb⟩
  refine ⟨_, rfl, ?_⟩
  replace BK240 := bB_ BK240 hb
  replace BK243 := bB_ BK243 hb
  replace HB := bS_ hb
  (try clear hb)
  (try clear hb2)
  (try clear hk)
  (try clear hi)
  refine hK.out _ _ (b5A_ BK243 ⟨(blk_cell BK240.out 0).trans rfl, (blk_cell BK240.out 1).trans rfl, (blk_cell BK240.out 2).trans rfl⟩) (fun hHeld => ?_)
  clear hK K
  refine nm_ 34 ?_
  refine pI_ 9 (bqz 44 1023) ?_
  refine jI_ 10 ?_
  refine jI_ 11 ?_
  refine jI_ 12 ?_
  refine sI8_ 13 ?_
  refine jI_ 14 ?_
  refine jI_ 15 ?_
  refine jU_ 16 ?_
  refine jU_ 17 ?_
  refine jU_ 18 ?_
  refine jU_ 19 ?_
  refine jU_ 20 ?_
  refine jI_ 21 ?_
  refine jI_ 22 ?_
  refine jI_ 23 ?_
  refine jI_ 24 ?_
  refine sI8_ 25 ?_
  refine oI_ 26 52 (bqz 44 134217727) (fun K hK => ?_)
  refine goes_ Try.func98 (by kernel_rfl) rfl #[.int .i64 ((rd_T37 l1 x5_2).f4), .int .i64 0, .int .i64 1000000] (by rfl) rfl rfl qz2 ?_
  with_reducible refine (spec_l1In.calls ((rd_T37 l1 x5_2).f4) 0 1000000 false _ A23.out).mono ?_
  rintro e w' ⟨rfl, ⟨nd, rfl⟩⟩
  refine ⟨_, rfl, ?_⟩
  refine hK.out _ _ (b5A_ BK243 ⟨(blk_cell BK240.out 0).trans rfl, (blk_cell BK240.out 1).trans rfl, (blk_cell BK240.out 2).trans rfl⟩) (fun hHeld => ?_)
  clear hK K
  refine nm_ 52 ?_
  refine jI_ 27 ?_
  refine jI_ 28 ?_
  refine jI_ 29 ?_
  refine jU_ 30 ?_
  refine jU_ 31 ?_
  refine jU_ 32 ?_
  refine jU_ 33 ?_
  refine jU_ 34 ?_
  refine jU_ 35 ?_
  refine jU_ 36 ?_
  refine jU_ 37 ?_
  refine jU_ 38 ?_
  refine jU_ 39 ?_
  refine jU_ 40 ?_
  refine jU_ 41 ?_
  refine jU_ 42 ?_
  refine jI_ 43 ?_
  refine dN_ ?_
  try go_wp2
  go_meet
  case rel => exact ⟨_, (true), qz7, H', ⟨by have := HJ2.out; have := HK2.out; first | omega | exact Nat.le_refl _⟩, ⟨bk_ BK240.out⟩, ⟨bk_ BK243.out⟩, ⟨qz1⟩⟩
  }
  }
  {
  (first | rw [c22b0] | (simp only [i64_w, i32_w]; rw [c22b0]) | rw [@decide_eq_false _ _ (of_decide_eq_false c22b0)] | rw [@decide_eq_false _ _ (of_decide_eq_false c22b1)] | skip)
  replace H := Option.bind_eq_some_iff.mp H
  obtain ⟨t248, A380, H⟩ := H
  have A38 := aM A380
  clear A380
  replace H := iB_ H
  rcases H with ⟨rfl, H⟩ | ⟨rfl, H⟩
  {
  replace H := Option.bind_eq_some_iff.mp H
  obtain ⟨t249, A400, H⟩ := H
  have A40 := aM A400
  clear A400
  replace H := iB_ H
  rcases H with ⟨rfl, H⟩ | ⟨rfl, H⟩
  {
  replace H := iE_ H
  rcases H with ⟨c42b0, H⟩ | ⟨c42b0, H⟩
  {
  obtain ⟨ji43, hji43⟩ : ∃ j_ : Int, (wrap64 (x5_2 - 1)) = j_ := ⟨_, rfl⟩
  replace H : (if 0 ≤ (ji43) then (if (ji43) < (l1.length : Int) then (spec_CrewOk.j2 k2 l1 x5_2 (decide (((rd_T37 l1 (ji43)).f0) ≥ ((rd_T37 l1 x5_2).f0))) a0_0 a0_1 l0_2 ((rd_T37 l1 x5_2).f0) ((rd_T37 l1 x5_2).f1) ((rd_T37 l1 x5_2).f2) ((rd_T37 l1 x5_2).f3) ((rd_T37 l1 x5_2).f4)) else (none)) else (none)) = some r := by first | (rw [hji43] at H; exact H) | (simp only [hji43] at H ⊢; exact H)
  (try rw [hji43] at A18)
  (try rw [hji43] at A20)
  (try rw [hji43] at A38)
  (try rw [hji43] at A40)
  have hji43w : (IntKind.i64.wrap (x5_2 - 1)) = ji43 := (i64_w _).trans hji43
  replace H := iD_ H
  obtain ⟨c44b0, H⟩ := H
  replace H := iD_ H
  obtain ⟨c45b0, H⟩ := H
  have H' := aM H
  clear H
  try go_wp2
  generalize hq_ : (((((w15.setCell ⟨gb243, 0, none⟩ (.int .i64 ((rd_T37 l1 x5_2).f0))).setCell ⟨gb243, 1, none⟩ (.int .i64 ((rd_T37 l1 x5_2).f1))).setCell ⟨gb243, 2, none⟩ (.int .i64 ((rd_T37 l1 x5_2).f2))).setCell ⟨gb243, 3, none⟩ (.bool ((rd_T37 l1 x5_2).f3))).setCell ⟨gb243, 4, none⟩ (.int .i64 ((rd_T37 l1 x5_2).f4))) = w46
  replace BK240 := bqo_ hq_ BK240
  replace BK243 := bq5_ hq_ BK243
  replace HB : Aside0 (Below w.heap.size w w46) := ⟨by rw [← hq_]; exact qz1⟩
  clear hq_
  replace BK240 := aM (blk_drew BK240.out)
  replace BK243 := aM (blk_drew BK243.out)
  replace HB := aM (below_drew1 HB.out)
  have p250 : (0 ≤ ((ji43) : Int)) = True := et_
  have q250 : ((ji43) < (l1.length : Int)) = True := et_
  obtain ⟨ad250, e250, hx250_0, hx250_1, hx250_2, hx250_3, hx250_4⟩ := at_T37 HR1.out (ji43) dt_ dt_
  have hw250_4 := hx250_4
  have hw250_3 := hx250_3
  have hw250_2 := hx250_2
  have hw250_1 := hx250_1
  have hw250_0 := hx250_0
  obtain rfl := iJ_ e250
  replace hx250_0 := cB_ hx250_0
  replace hx250_1 := cB_ hx250_1
  replace hx250_2 := cB_ hx250_2
  replace hx250_3 := cB_ hx250_3
  replace hx250_4 := cB_ hx250_4
  refine start_ (n := 44) (S := fun w' => w'.cell? ⟨gb243, 0, none⟩ = some (.int .i64 ((rd_T37 l1 x5_2).f0)) ∧ w'.cell? ⟨gb243, 1, none⟩ = some (.int .i64 ((rd_T37 l1 x5_2).f1)) ∧ w'.cell? ⟨gb243, 2, none⟩ = some (.int .i64 ((rd_T37 l1 x5_2).f2)) ∧ w'.cell? ⟨gb243, 3, none⟩ = some (.bool ((rd_T37 l1 x5_2).f3)) ∧ w'.cell? ⟨gb243, 4, none⟩ = some (.int .i64 ((rd_T37 l1 x5_2).f4)) ∧ w'.cell? ⟨gb240, 0, none⟩ = some (.int .i64 a0_0) ∧ w'.cell? ⟨gb240, 1, none⟩ = some (.int .i64 a0_1) ∧ w'.cell? ⟨gb240, 2, none⟩ = some (.slice A0_2 l0_2.length c0_2) ∧ w'.cell? (ad242.add (((ji43)).toNat * 5)) = some (.int .i64 ((rd_T37 l1 (ji43)).f0)) ∧ w'.cell? ⟨(ad242.add (((ji43)).toNat * 5)).block, (ad242.add (((ji43)).toNat * 5)).off + 1, none⟩ = some (.int .i64 ((rd_T37 l1 (ji43)).f1)) ∧ w'.cell? ⟨(ad242.add (((ji43)).toNat * 5)).block, (ad242.add (((ji43)).toNat * 5)).off + 2, none⟩ = some (.int .i64 ((rd_T37 l1 (ji43)).f2)) ∧ w'.cell? ⟨(ad242.add (((ji43)).toNat * 5)).block, (ad242.add (((ji43)).toNat * 5)).off + 3, none⟩ = some (.bool ((rd_T37 l1 (ji43)).f3)) ∧ w'.cell? ⟨(ad242.add (((ji43)).toNat * 5)).block, (ad242.add (((ji43)).toNat * 5)).off + 4, none⟩ = some (.int .i64 ((rd_T37 l1 (ji43)).f4))) (ds := []) #[false, false, false, false, false, false, false, false, false, false, false, false, false, false, false, false, false, false, false, false, false, false, false, false, false, false, false, false, false, false, false, false, false, false, false, false, false, false, false, false, false, false, false, false] (by kernel_rfl) rfl rfl ⟨(blk_cell BK243.out 0).trans rfl, (blk_cell BK243.out 1).trans rfl, (blk_cell BK243.out 2).trans rfl, (blk_cell BK243.out 3).trans rfl, (blk_cell BK243.out 4).trans rfl, (blk_cell BK240.out 0).trans rfl, (blk_cell BK240.out 1).trans rfl, (blk_cell BK240.out 2).trans rfl, (cB_ hw250_0), (cB_ hw250_1), (cB_ hw250_2), (cB_ hw250_3), (cB_ hw250_4)⟩ (fun hHeld => ?_); refine with_tabW spec_CrewOk.tab7 spec_CrewOk.bits7 (fun HT_ HW_ => ?_)
  generalize w46.drew = w47 at BK240 BK243 HB hx250_0 hx250_1 hx250_2 hx250_3 hx250_4 hHeld ⊢
  refine pI_ 0 (bqz 44 1) ?_
  refine sI13_ 1 ?_
  refine oI_ 2 28 (bqz 44 7) (fun K hK => ?_)
  refine goes_ Try.func98 (by kernel_rfl) rfl #[.int .i64 ((rd_T37 l1 x5_2).f0), .int .i64 1, .int .i64 99] (by rfl) rfl rfl qz2 ?_
  with_reducible refine (spec_l1In.calls ((rd_T37 l1 x5_2).f0) 1 99 true _ A18.out).mono ?_
  rintro e w' ⟨rfl, ⟨nd, rfl⟩⟩
  refine ⟨_, rfl, ?_⟩
  refine hK.out _ _ (b5A_ BK243 (b3A_ BK240 ⟨(cB_ hw250_0), (cB_ hw250_1), (cB_ hw250_2), (cB_ hw250_3), (cB_ hw250_4)⟩)) (fun hHeld => ?_)
  clear hK K
  refine nm_ 28 ?_
  refine jI_ 3 ?_
  refine jI_ 4 ?_
  refine jI_ 6 ?_
  refine sI13_ 5 ?_
  refine sI13_ 7 ?_
  refine oI_ 8 34 (bqz 44 511) (fun K hK => ?_)
  refine goes_ Try.func61 (by kernel_rfl) rfl #[.agg #[.int .i64 a0_0, .int .i64 a0_1, .slice A0_2 l0_2.length c0_2], .int .i64 ((rd_T37 l1 x5_2).f1)] (by rfl) rfl rfl qz2 ?_
  with_reducible refine (spec_l7Free.calls a0_0 a0_1 _ _ l0_2 ((rd_T37 l1 x5_2).f1) true _ ?side1 ?side2 A20.out).mono ?_
  (case side1 => exact qz31)
  (case side2 => exact qz28)
  rintro e w48 ⟨rfl, hb⟩
  refine ⟨_, rfl, ?_⟩
  replace BK240 := bB_ BK240 hb
  replace BK243 := bB_ BK243 hb
  replace HB := bS_ hb
  (try clear hb)
  (try clear hb2)
  (try clear hk)
  (try clear hi)
  refine hK.out _ _ (b5A_ BK243 (b3A_ BK240 ⟨(cB_ hw250_0), (cB_ hw250_1), (cB_ hw250_2), (cB_ hw250_3), (cB_ hw250_4)⟩)) (fun hHeld => ?_)
  clear hK K
  refine nm_ 34 ?_
  refine pI_ 9 (bqz 44 1023) ?_
  refine jI_ 10 ?_
  refine jI_ 11 ?_
  refine jI_ 12 ?_
  refine sI13_ 13 ?_
  refine jI_ 14 ?_
  refine jI_ 15 ?_
  refine jI_ 17 ?_
  refine sI13_ 16 ?_
  refine sI13_ 18 ?_
  refine oI_ 19 45 (bqz 44 1048575) (fun K hK => ?_)
  refine goes_ Try.func61 (by kernel_rfl) rfl #[.agg #[.int .i64 a0_0, .int .i64 a0_1, .slice A0_2 l0_2.length c0_2], .int .i64 ((rd_T37 l1 x5_2).f2)] (by rfl) rfl rfl qz2 ?_
  with_reducible refine (spec_l7Free.calls a0_0 a0_1 _ _ l0_2 ((rd_T37 l1 x5_2).f2) true _ ?side1 ?side2 A38.out).mono ?_
  (case side1 => exact qz6)
  (case side2 => exact qz28)
  rintro e w49 ⟨rfl, hb⟩
  refine ⟨_, rfl, ?_⟩
  replace BK240 := bB_ BK240 hb
  replace BK243 := bB_ BK243 hb
  replace HB := bS_ hb
  (try clear hb)
  (try clear hb2)
  (try clear hk)
  (try clear hi)
  refine hK.out _ _ (b5A_ BK243 (b3A_ BK240 ⟨(cB_ hw250_0), (cB_ hw250_1), (cB_ hw250_2), (cB_ hw250_3), (cB_ hw250_4)⟩)) (fun hHeld => ?_)
  clear hK K
  refine nm_ 45 ?_
  refine pI_ 20 (bqz 44 2097151) ?_
  refine jI_ 21 ?_
  refine jI_ 22 ?_
  refine jI_ 23 ?_
  refine jI_ 24 ?_
  refine sI13_ 25 ?_
  refine oI_ 26 52 (bqz 44 134217727) (fun K hK => ?_)
  refine goes_ Try.func98 (by kernel_rfl) rfl #[.int .i64 ((rd_T37 l1 x5_2).f4), .int .i64 0, .int .i64 1000000] (by rfl) rfl rfl qz2 ?_
  with_reducible refine (spec_l1In.calls ((rd_T37 l1 x5_2).f4) 0 1000000 true _ A40.out).mono ?_
  rintro e w' ⟨rfl, ⟨nd, rfl⟩⟩
  refine ⟨_, rfl, ?_⟩
  refine hK.out _ _ (b5A_ BK243 (b3A_ BK240 ⟨(cB_ hw250_0), (cB_ hw250_1), (cB_ hw250_2), (cB_ hw250_3), (cB_ hw250_4)⟩)) (fun hHeld => ?_)
  clear hK K
  refine nm_ 52 ?_
  refine jI_ 27 ?_
  refine jI_ 28 ?_
  refine jI_ 29 ?_
  refine jI_ 30 ?_
  refine jI_ 31 ?_
  refine jI_ 32 ?_
  refine jI_ 33 ?_
  refine jI_ 34 ?_
  refine jI_ 35 ?_
  refine jI_ 36 ?_
  refine jI_ 37 ?_
  refine jI_ 39 ?_
  refine sI13_ 38 ?_
  refine sI13_ 40 ?_
  refine jI_ 41 ?_
  refine jI_ 42 ?_
  refine jI_ 43 ?_
  refine dN_ ?_
  try go_wp2
  go_meet
  case rel => exact ⟨_, (decide (((rd_T37 l1 (ji43)).f0) ≥ ((rd_T37 l1 x5_2).f0))), (by first | rfl | (simp; done) | (simp only [← hji43] <;> (first | rfl | simp)) | (simp [*]; done)), H', ⟨by have := HJ2.out; have := HK2.out; first | omega | exact Nat.le_refl _⟩, ⟨bk_ BK240.out⟩, ⟨bk_ BK243.out⟩, ⟨qz1⟩⟩
  }
  {
  have H' := aM H
  clear H
  try go_wp2
  generalize hq_ : (((((w15.setCell ⟨gb243, 0, none⟩ (.int .i64 ((rd_T37 l1 x5_2).f0))).setCell ⟨gb243, 1, none⟩ (.int .i64 ((rd_T37 l1 x5_2).f1))).setCell ⟨gb243, 2, none⟩ (.int .i64 ((rd_T37 l1 x5_2).f2))).setCell ⟨gb243, 3, none⟩ (.bool ((rd_T37 l1 x5_2).f3))).setCell ⟨gb243, 4, none⟩ (.int .i64 ((rd_T37 l1 x5_2).f4))) = w50
  replace BK240 := bqo_ hq_ BK240
  replace BK243 := bq5_ hq_ BK243
  replace HB : Aside0 (Below w.heap.size w w50) := ⟨by rw [← hq_]; exact qz1⟩
  clear hq_
  replace BK240 := aM (blk_drew BK240.out)
  replace BK243 := aM (blk_drew BK243.out)
  replace HB := aM (below_drew1 HB.out)
  refine start_ (n := 44) (S := fun w' => w'.cell? ⟨gb243, 0, none⟩ = some (.int .i64 ((rd_T37 l1 x5_2).f0)) ∧ w'.cell? ⟨gb243, 1, none⟩ = some (.int .i64 ((rd_T37 l1 x5_2).f1)) ∧ w'.cell? ⟨gb243, 2, none⟩ = some (.int .i64 ((rd_T37 l1 x5_2).f2)) ∧ w'.cell? ⟨gb243, 3, none⟩ = some (.bool ((rd_T37 l1 x5_2).f3)) ∧ w'.cell? ⟨gb243, 4, none⟩ = some (.int .i64 ((rd_T37 l1 x5_2).f4)) ∧ w'.cell? ⟨gb240, 0, none⟩ = some (.int .i64 a0_0) ∧ w'.cell? ⟨gb240, 1, none⟩ = some (.int .i64 a0_1) ∧ w'.cell? ⟨gb240, 2, none⟩ = some (.slice A0_2 l0_2.length c0_2)) (ds := []) #[false, false, false, false, false, false, false, false, false, false, false, false, false, false, false, false, false, false, false, false, false, false, false, false, false, false, false, false, false, false, false, false, false, false, false, false, false, false, false, false, false, false, false, false] (by kernel_rfl) rfl rfl ⟨(blk_cell BK243.out 0).trans rfl, (blk_cell BK243.out 1).trans rfl, (blk_cell BK243.out 2).trans rfl, (blk_cell BK243.out 3).trans rfl, (blk_cell BK243.out 4).trans rfl, (blk_cell BK240.out 0).trans rfl, (blk_cell BK240.out 1).trans rfl, (blk_cell BK240.out 2).trans rfl⟩ (fun hHeld => ?_); refine with_tabW spec_CrewOk.tab7 spec_CrewOk.bits7 (fun HT_ HW_ => ?_)
  generalize w50.drew = w51 at BK240 BK243 HB hHeld ⊢
  refine pI_ 0 (bqz 44 1) ?_
  refine sI8_ 1 ?_
  refine oI_ 2 28 (bqz 44 7) (fun K hK => ?_)
  refine goes_ Try.func98 (by kernel_rfl) rfl #[.int .i64 ((rd_T37 l1 x5_2).f0), .int .i64 1, .int .i64 99] (by rfl) rfl rfl qz2 ?_
  with_reducible refine (spec_l1In.calls ((rd_T37 l1 x5_2).f0) 1 99 true _ A18.out).mono ?_
  rintro e w' ⟨rfl, ⟨nd, rfl⟩⟩
  refine ⟨_, rfl, ?_⟩
  refine hK.out _ _ (b5A_ BK243 ⟨(blk_cell BK240.out 0).trans rfl, (blk_cell BK240.out 1).trans rfl, (blk_cell BK240.out 2).trans rfl⟩) (fun hHeld => ?_)
  clear hK K
  refine nm_ 28 ?_
  refine jI_ 3 ?_
  refine jI_ 4 ?_
  refine jI_ 6 ?_
  refine sI8_ 5 ?_
  refine sI8_ 7 ?_
  refine oI_ 8 34 (bqz 44 511) (fun K hK => ?_)
  refine goes_ Try.func61 (by kernel_rfl) rfl #[.agg #[.int .i64 a0_0, .int .i64 a0_1, .slice A0_2 l0_2.length c0_2], .int .i64 ((rd_T37 l1 x5_2).f1)] (by rfl) rfl rfl qz2 ?_
  with_reducible refine (spec_l7Free.calls a0_0 a0_1 _ _ l0_2 ((rd_T37 l1 x5_2).f1) true _ ?side1 ?side2 A20.out).mono ?_
  (case side1 => exact qz31)
  (case side2 => exact qz28)
  rintro e w52 ⟨rfl, hb⟩
  refine ⟨_, rfl, ?_⟩
  replace BK240 := bB_ BK240 hb
  replace BK243 := bB_ BK243 hb
  replace HB := bS_ hb
  (try clear hb)
  (try clear hb2)
  (try clear hk)
  (try clear hi)
  refine hK.out _ _ (b5A_ BK243 ⟨(blk_cell BK240.out 0).trans rfl, (blk_cell BK240.out 1).trans rfl, (blk_cell BK240.out 2).trans rfl⟩) (fun hHeld => ?_)
  clear hK K
  refine nm_ 34 ?_
  refine pI_ 9 (bqz 44 1023) ?_
  refine jI_ 10 ?_
  refine jI_ 11 ?_
  refine jI_ 12 ?_
  refine sI8_ 13 ?_
  refine jI_ 14 ?_
  refine jI_ 15 ?_
  refine jI_ 17 ?_
  refine sI8_ 16 ?_
  refine sI8_ 18 ?_
  refine oI_ 19 45 (bqz 44 1048575) (fun K hK => ?_)
  refine goes_ Try.func61 (by kernel_rfl) rfl #[.agg #[.int .i64 a0_0, .int .i64 a0_1, .slice A0_2 l0_2.length c0_2], .int .i64 ((rd_T37 l1 x5_2).f2)] (by rfl) rfl rfl qz2 ?_
  with_reducible refine (spec_l7Free.calls a0_0 a0_1 _ _ l0_2 ((rd_T37 l1 x5_2).f2) true _ ?side1 ?side2 A38.out).mono ?_
  (case side1 => exact qz6)
  (case side2 => exact qz28)
  rintro e w53 ⟨rfl, hb⟩
  refine ⟨_, rfl, ?_⟩
  replace BK240 := bB_ BK240 hb
  replace BK243 := bB_ BK243 hb
  replace HB := bS_ hb
  (try clear hb)
  (try clear hb2)
  (try clear hk)
  (try clear hi)
  refine hK.out _ _ (b5A_ BK243 ⟨(blk_cell BK240.out 0).trans rfl, (blk_cell BK240.out 1).trans rfl, (blk_cell BK240.out 2).trans rfl⟩) (fun hHeld => ?_)
  clear hK K
  refine nm_ 45 ?_
  refine pI_ 20 (bqz 44 2097151) ?_
  refine jI_ 21 ?_
  refine jI_ 22 ?_
  refine jI_ 23 ?_
  refine jI_ 24 ?_
  refine sI8_ 25 ?_
  refine oI_ 26 52 (bqz 44 134217727) (fun K hK => ?_)
  refine goes_ Try.func98 (by kernel_rfl) rfl #[.int .i64 ((rd_T37 l1 x5_2).f4), .int .i64 0, .int .i64 1000000] (by rfl) rfl rfl qz2 ?_
  with_reducible refine (spec_l1In.calls ((rd_T37 l1 x5_2).f4) 0 1000000 true _ A40.out).mono ?_
  rintro e w' ⟨rfl, ⟨nd, rfl⟩⟩
  refine ⟨_, rfl, ?_⟩
  refine hK.out _ _ (b5A_ BK243 ⟨(blk_cell BK240.out 0).trans rfl, (blk_cell BK240.out 1).trans rfl, (blk_cell BK240.out 2).trans rfl⟩) (fun hHeld => ?_)
  clear hK K
  refine nm_ 52 ?_
  refine jI_ 27 ?_
  refine jI_ 28 ?_
  refine jI_ 29 ?_
  refine jI_ 30 ?_
  refine jI_ 31 ?_
  refine jI_ 32 ?_
  refine jU_ 33 ?_
  refine jU_ 34 ?_
  refine jU_ 35 ?_
  refine jU_ 36 ?_
  refine jU_ 37 ?_
  refine jU_ 38 ?_
  refine jU_ 39 ?_
  refine jU_ 40 ?_
  refine jU_ 41 ?_
  refine jI_ 42 ?_
  refine jI_ 43 ?_
  refine dN_ ?_
  try go_wp2
  go_meet
  case rel => exact ⟨_, (false), qz7, H', ⟨by have := HJ2.out; have := HK2.out; first | omega | exact Nat.le_refl _⟩, ⟨bk_ BK240.out⟩, ⟨bk_ BK243.out⟩, ⟨qz1⟩⟩
  }
  }
  {
  have H' := aM H
  clear H
  try go_wp2
  generalize hq_ : (((((w15.setCell ⟨gb243, 0, none⟩ (.int .i64 ((rd_T37 l1 x5_2).f0))).setCell ⟨gb243, 1, none⟩ (.int .i64 ((rd_T37 l1 x5_2).f1))).setCell ⟨gb243, 2, none⟩ (.int .i64 ((rd_T37 l1 x5_2).f2))).setCell ⟨gb243, 3, none⟩ (.bool ((rd_T37 l1 x5_2).f3))).setCell ⟨gb243, 4, none⟩ (.int .i64 ((rd_T37 l1 x5_2).f4))) = w54
  replace BK240 := bqo_ hq_ BK240
  replace BK243 := bq5_ hq_ BK243
  replace HB : Aside0 (Below w.heap.size w w54) := ⟨by rw [← hq_]; exact qz1⟩
  clear hq_
  replace BK240 := aM (blk_drew BK240.out)
  replace BK243 := aM (blk_drew BK243.out)
  replace HB := aM (below_drew1 HB.out)
  refine start_ (n := 44) (S := fun w' => w'.cell? ⟨gb243, 0, none⟩ = some (.int .i64 ((rd_T37 l1 x5_2).f0)) ∧ w'.cell? ⟨gb243, 1, none⟩ = some (.int .i64 ((rd_T37 l1 x5_2).f1)) ∧ w'.cell? ⟨gb243, 2, none⟩ = some (.int .i64 ((rd_T37 l1 x5_2).f2)) ∧ w'.cell? ⟨gb243, 3, none⟩ = some (.bool ((rd_T37 l1 x5_2).f3)) ∧ w'.cell? ⟨gb243, 4, none⟩ = some (.int .i64 ((rd_T37 l1 x5_2).f4)) ∧ w'.cell? ⟨gb240, 0, none⟩ = some (.int .i64 a0_0) ∧ w'.cell? ⟨gb240, 1, none⟩ = some (.int .i64 a0_1) ∧ w'.cell? ⟨gb240, 2, none⟩ = some (.slice A0_2 l0_2.length c0_2)) (ds := []) #[false, false, false, false, false, false, false, false, false, false, false, false, false, false, false, false, false, false, false, false, false, false, false, false, false, false, false, false, false, false, false, false, false, false, false, false, false, false, false, false, false, false, false, false] (by kernel_rfl) rfl rfl ⟨(blk_cell BK243.out 0).trans rfl, (blk_cell BK243.out 1).trans rfl, (blk_cell BK243.out 2).trans rfl, (blk_cell BK243.out 3).trans rfl, (blk_cell BK243.out 4).trans rfl, (blk_cell BK240.out 0).trans rfl, (blk_cell BK240.out 1).trans rfl, (blk_cell BK240.out 2).trans rfl⟩ (fun hHeld => ?_); refine with_tabW spec_CrewOk.tab7 spec_CrewOk.bits7 (fun HT_ HW_ => ?_)
  generalize w54.drew = w55 at BK240 BK243 HB hHeld ⊢
  refine pI_ 0 (bqz 44 1) ?_
  refine sI8_ 1 ?_
  refine oI_ 2 28 (bqz 44 7) (fun K hK => ?_)
  refine goes_ Try.func98 (by kernel_rfl) rfl #[.int .i64 ((rd_T37 l1 x5_2).f0), .int .i64 1, .int .i64 99] (by rfl) rfl rfl qz2 ?_
  with_reducible refine (spec_l1In.calls ((rd_T37 l1 x5_2).f0) 1 99 true _ A18.out).mono ?_
  rintro e w' ⟨rfl, ⟨nd, rfl⟩⟩
  refine ⟨_, rfl, ?_⟩
  refine hK.out _ _ (b5A_ BK243 ⟨(blk_cell BK240.out 0).trans rfl, (blk_cell BK240.out 1).trans rfl, (blk_cell BK240.out 2).trans rfl⟩) (fun hHeld => ?_)
  clear hK K
  refine nm_ 28 ?_
  refine jI_ 3 ?_
  refine jI_ 4 ?_
  refine jI_ 6 ?_
  refine sI8_ 5 ?_
  refine sI8_ 7 ?_
  refine oI_ 8 34 (bqz 44 511) (fun K hK => ?_)
  refine goes_ Try.func61 (by kernel_rfl) rfl #[.agg #[.int .i64 a0_0, .int .i64 a0_1, .slice A0_2 l0_2.length c0_2], .int .i64 ((rd_T37 l1 x5_2).f1)] (by rfl) rfl rfl qz2 ?_
  with_reducible refine (spec_l7Free.calls a0_0 a0_1 _ _ l0_2 ((rd_T37 l1 x5_2).f1) true _ ?side1 ?side2 A20.out).mono ?_
  (case side1 => exact qz31)
  (case side2 => exact qz28)
  rintro e w56 ⟨rfl, hb⟩
  refine ⟨_, rfl, ?_⟩
  replace BK240 := bB_ BK240 hb
  replace BK243 := bB_ BK243 hb
  replace HB := bS_ hb
  (try clear hb)
  (try clear hb2)
  (try clear hk)
  (try clear hi)
  refine hK.out _ _ (b5A_ BK243 ⟨(blk_cell BK240.out 0).trans rfl, (blk_cell BK240.out 1).trans rfl, (blk_cell BK240.out 2).trans rfl⟩) (fun hHeld => ?_)
  clear hK K
  refine nm_ 34 ?_
  refine pI_ 9 (bqz 44 1023) ?_
  refine jI_ 10 ?_
  refine jI_ 11 ?_
  refine jI_ 12 ?_
  refine sI8_ 13 ?_
  refine jI_ 14 ?_
  refine jI_ 15 ?_
  refine jI_ 17 ?_
  refine sI8_ 16 ?_
  refine sI8_ 18 ?_
  refine oI_ 19 45 (bqz 44 1048575) (fun K hK => ?_)
  refine goes_ Try.func61 (by kernel_rfl) rfl #[.agg #[.int .i64 a0_0, .int .i64 a0_1, .slice A0_2 l0_2.length c0_2], .int .i64 ((rd_T37 l1 x5_2).f2)] (by rfl) rfl rfl qz2 ?_
  with_reducible refine (spec_l7Free.calls a0_0 a0_1 _ _ l0_2 ((rd_T37 l1 x5_2).f2) true _ ?side1 ?side2 A38.out).mono ?_
  (case side1 => exact qz6)
  (case side2 => exact qz28)
  rintro e w57 ⟨rfl, hb⟩
  refine ⟨_, rfl, ?_⟩
  replace BK240 := bB_ BK240 hb
  replace BK243 := bB_ BK243 hb
  replace HB := bS_ hb
  (try clear hb)
  (try clear hb2)
  (try clear hk)
  (try clear hi)
  refine hK.out _ _ (b5A_ BK243 ⟨(blk_cell BK240.out 0).trans rfl, (blk_cell BK240.out 1).trans rfl, (blk_cell BK240.out 2).trans rfl⟩) (fun hHeld => ?_)
  clear hK K
  refine nm_ 45 ?_
  refine pI_ 20 (bqz 44 2097151) ?_
  refine jI_ 21 ?_
  refine jI_ 22 ?_
  refine jI_ 23 ?_
  refine jI_ 24 ?_
  refine sI8_ 25 ?_
  refine oI_ 26 52 (bqz 44 134217727) (fun K hK => ?_)
  refine goes_ Try.func98 (by kernel_rfl) rfl #[.int .i64 ((rd_T37 l1 x5_2).f4), .int .i64 0, .int .i64 1000000] (by rfl) rfl rfl qz2 ?_
  with_reducible refine (spec_l1In.calls ((rd_T37 l1 x5_2).f4) 0 1000000 false _ A40.out).mono ?_
  rintro e w' ⟨rfl, ⟨nd, rfl⟩⟩
  refine ⟨_, rfl, ?_⟩
  refine hK.out _ _ (b5A_ BK243 ⟨(blk_cell BK240.out 0).trans rfl, (blk_cell BK240.out 1).trans rfl, (blk_cell BK240.out 2).trans rfl⟩) (fun hHeld => ?_)
  clear hK K
  refine nm_ 52 ?_
  refine jI_ 27 ?_
  refine jI_ 28 ?_
  refine jI_ 29 ?_
  refine jU_ 30 ?_
  refine jU_ 31 ?_
  refine jU_ 32 ?_
  refine jU_ 33 ?_
  refine jU_ 34 ?_
  refine jU_ 35 ?_
  refine jU_ 36 ?_
  refine jU_ 37 ?_
  refine jU_ 38 ?_
  refine jU_ 39 ?_
  refine jU_ 40 ?_
  refine jU_ 41 ?_
  refine jU_ 42 ?_
  refine jI_ 43 ?_
  refine dN_ ?_
  try go_wp2
  go_meet
  case rel => exact ⟨_, (true), qz7, H', ⟨by have := HJ2.out; have := HK2.out; first | omega | exact Nat.le_refl _⟩, ⟨bk_ BK240.out⟩, ⟨bk_ BK243.out⟩, ⟨qz1⟩⟩
  }
  }
  {
  have H' := aM H
  clear H
  try go_wp2
  generalize hq_ : (((((w15.setCell ⟨gb243, 0, none⟩ (.int .i64 ((rd_T37 l1 x5_2).f0))).setCell ⟨gb243, 1, none⟩ (.int .i64 ((rd_T37 l1 x5_2).f1))).setCell ⟨gb243, 2, none⟩ (.int .i64 ((rd_T37 l1 x5_2).f2))).setCell ⟨gb243, 3, none⟩ (.bool ((rd_T37 l1 x5_2).f3))).setCell ⟨gb243, 4, none⟩ (.int .i64 ((rd_T37 l1 x5_2).f4))) = w58
  replace BK240 := bqo_ hq_ BK240
  replace BK243 := bq5_ hq_ BK243
  replace HB : Aside0 (Below w.heap.size w w58) := ⟨by rw [← hq_]; exact qz1⟩
  clear hq_
  replace BK240 := aM (blk_drew BK240.out)
  replace BK243 := aM (blk_drew BK243.out)
  replace HB := aM (below_drew1 HB.out)
  refine start_ (n := 44) (S := fun w' => w'.cell? ⟨gb243, 0, none⟩ = some (.int .i64 ((rd_T37 l1 x5_2).f0)) ∧ w'.cell? ⟨gb243, 1, none⟩ = some (.int .i64 ((rd_T37 l1 x5_2).f1)) ∧ w'.cell? ⟨gb243, 2, none⟩ = some (.int .i64 ((rd_T37 l1 x5_2).f2)) ∧ w'.cell? ⟨gb243, 3, none⟩ = some (.bool ((rd_T37 l1 x5_2).f3)) ∧ w'.cell? ⟨gb243, 4, none⟩ = some (.int .i64 ((rd_T37 l1 x5_2).f4)) ∧ w'.cell? ⟨gb240, 0, none⟩ = some (.int .i64 a0_0) ∧ w'.cell? ⟨gb240, 1, none⟩ = some (.int .i64 a0_1) ∧ w'.cell? ⟨gb240, 2, none⟩ = some (.slice A0_2 l0_2.length c0_2)) (ds := []) #[false, false, false, false, false, false, false, false, false, false, false, false, false, false, false, false, false, false, false, false, false, false, false, false, false, false, false, false, false, false, false, false, false, false, false, false, false, false, false, false, false, false, false, false] (by kernel_rfl) rfl rfl ⟨(blk_cell BK243.out 0).trans rfl, (blk_cell BK243.out 1).trans rfl, (blk_cell BK243.out 2).trans rfl, (blk_cell BK243.out 3).trans rfl, (blk_cell BK243.out 4).trans rfl, (blk_cell BK240.out 0).trans rfl, (blk_cell BK240.out 1).trans rfl, (blk_cell BK240.out 2).trans rfl⟩ (fun hHeld => ?_); refine with_tabW spec_CrewOk.tab7 spec_CrewOk.bits7 (fun HT_ HW_ => ?_)
  generalize w58.drew = w59 at BK240 BK243 HB hHeld ⊢
  refine pI_ 0 (bqz 44 1) ?_
  refine sI8_ 1 ?_
  refine oI_ 2 28 (bqz 44 7) (fun K hK => ?_)
  refine goes_ Try.func98 (by kernel_rfl) rfl #[.int .i64 ((rd_T37 l1 x5_2).f0), .int .i64 1, .int .i64 99] (by rfl) rfl rfl qz2 ?_
  with_reducible refine (spec_l1In.calls ((rd_T37 l1 x5_2).f0) 1 99 true _ A18.out).mono ?_
  rintro e w' ⟨rfl, ⟨nd, rfl⟩⟩
  refine ⟨_, rfl, ?_⟩
  refine hK.out _ _ (b5A_ BK243 ⟨(blk_cell BK240.out 0).trans rfl, (blk_cell BK240.out 1).trans rfl, (blk_cell BK240.out 2).trans rfl⟩) (fun hHeld => ?_)
  clear hK K
  refine nm_ 28 ?_
  refine jI_ 3 ?_
  refine jI_ 4 ?_
  refine jI_ 6 ?_
  refine sI8_ 5 ?_
  refine sI8_ 7 ?_
  refine oI_ 8 34 (bqz 44 511) (fun K hK => ?_)
  refine goes_ Try.func61 (by kernel_rfl) rfl #[.agg #[.int .i64 a0_0, .int .i64 a0_1, .slice A0_2 l0_2.length c0_2], .int .i64 ((rd_T37 l1 x5_2).f1)] (by rfl) rfl rfl qz2 ?_
  with_reducible refine (spec_l7Free.calls a0_0 a0_1 _ _ l0_2 ((rd_T37 l1 x5_2).f1) true _ ?side1 ?side2 A20.out).mono ?_
  (case side1 => exact qz31)
  (case side2 => exact qz28)
  rintro e w60 ⟨rfl, hb⟩
  refine ⟨_, rfl, ?_⟩
  replace BK240 := bB_ BK240 hb
  replace BK243 := bB_ BK243 hb
  replace HB := bS_ hb
  (try clear hb)
  (try clear hb2)
  (try clear hk)
  (try clear hi)
  refine hK.out _ _ (b5A_ BK243 ⟨(blk_cell BK240.out 0).trans rfl, (blk_cell BK240.out 1).trans rfl, (blk_cell BK240.out 2).trans rfl⟩) (fun hHeld => ?_)
  clear hK K
  refine nm_ 34 ?_
  refine pI_ 9 (bqz 44 1023) ?_
  refine jI_ 10 ?_
  refine jI_ 11 ?_
  refine jI_ 12 ?_
  refine sI8_ 13 ?_
  refine jI_ 14 ?_
  refine jI_ 15 ?_
  refine jI_ 17 ?_
  refine sI8_ 16 ?_
  refine sI8_ 18 ?_
  refine oI_ 19 45 (bqz 44 1048575) (fun K hK => ?_)
  refine goes_ Try.func61 (by kernel_rfl) rfl #[.agg #[.int .i64 a0_0, .int .i64 a0_1, .slice A0_2 l0_2.length c0_2], .int .i64 ((rd_T37 l1 x5_2).f2)] (by rfl) rfl rfl qz2 ?_
  with_reducible refine (spec_l7Free.calls a0_0 a0_1 _ _ l0_2 ((rd_T37 l1 x5_2).f2) false _ ?side1 ?side2 A38.out).mono ?_
  (case side1 => exact qz6)
  (case side2 => exact qz28)
  rintro e w61 ⟨rfl, hb⟩
  refine ⟨_, rfl, ?_⟩
  replace BK240 := bB_ BK240 hb
  replace BK243 := bB_ BK243 hb
  replace HB := bS_ hb
  (try clear hb)
  (try clear hb2)
  (try clear hk)
  (try clear hi)
  refine hK.out _ _ (b5A_ BK243 ⟨(blk_cell BK240.out 0).trans rfl, (blk_cell BK240.out 1).trans rfl, (blk_cell BK240.out 2).trans rfl⟩) (fun hHeld => ?_)
  clear hK K
  refine nm_ 45 ?_
  refine pI_ 20 (bqz 44 2097151) ?_
  refine jI_ 21 ?_
  refine jI_ 22 ?_
  refine jI_ 23 ?_
  refine jU_ 24 ?_
  refine jU_ 25 ?_
  refine jU_ 26 ?_
  refine jU_ 27 ?_
  refine jI_ 28 ?_
  refine jI_ 29 ?_
  refine jU_ 30 ?_
  refine jU_ 31 ?_
  refine jU_ 32 ?_
  refine jU_ 33 ?_
  refine jU_ 34 ?_
  refine jU_ 35 ?_
  refine jU_ 36 ?_
  refine jU_ 37 ?_
  refine jU_ 38 ?_
  refine jU_ 39 ?_
  refine jU_ 40 ?_
  refine jU_ 41 ?_
  refine jU_ 42 ?_
  refine jI_ 43 ?_
  refine dN_ ?_
  try go_wp2
  go_meet
  case rel => exact ⟨_, (true), qz7, H', ⟨by have := HJ2.out; have := HK2.out; first | omega | exact Nat.le_refl _⟩, ⟨bk_ BK240.out⟩, ⟨bk_ BK243.out⟩, ⟨qz1⟩⟩
  }
  }
  }
  {
  have H' := aM H
  clear H
  try go_wp2
  generalize hq_ : (((((w15.setCell ⟨gb243, 0, none⟩ (.int .i64 ((rd_T37 l1 x5_2).f0))).setCell ⟨gb243, 1, none⟩ (.int .i64 ((rd_T37 l1 x5_2).f1))).setCell ⟨gb243, 2, none⟩ (.int .i64 ((rd_T37 l1 x5_2).f2))).setCell ⟨gb243, 3, none⟩ (.bool ((rd_T37 l1 x5_2).f3))).setCell ⟨gb243, 4, none⟩ (.int .i64 ((rd_T37 l1 x5_2).f4))) = w62
  replace BK240 := bqo_ hq_ BK240
  replace BK243 := bq5_ hq_ BK243
  replace HB : Aside0 (Below w.heap.size w w62) := ⟨by rw [← hq_]; exact qz1⟩
  clear hq_
  replace BK240 := aM (blk_drew BK240.out)
  replace BK243 := aM (blk_drew BK243.out)
  replace HB := aM (below_drew1 HB.out)
  refine start_ (n := 44) (S := fun w' => w'.cell? ⟨gb243, 0, none⟩ = some (.int .i64 ((rd_T37 l1 x5_2).f0)) ∧ w'.cell? ⟨gb243, 1, none⟩ = some (.int .i64 ((rd_T37 l1 x5_2).f1)) ∧ w'.cell? ⟨gb243, 2, none⟩ = some (.int .i64 ((rd_T37 l1 x5_2).f2)) ∧ w'.cell? ⟨gb243, 3, none⟩ = some (.bool ((rd_T37 l1 x5_2).f3)) ∧ w'.cell? ⟨gb243, 4, none⟩ = some (.int .i64 ((rd_T37 l1 x5_2).f4)) ∧ w'.cell? ⟨gb240, 0, none⟩ = some (.int .i64 a0_0) ∧ w'.cell? ⟨gb240, 1, none⟩ = some (.int .i64 a0_1) ∧ w'.cell? ⟨gb240, 2, none⟩ = some (.slice A0_2 l0_2.length c0_2)) (ds := []) #[false, false, false, false, false, false, false, false, false, false, false, false, false, false, false, false, false, false, false, false, false, false, false, false, false, false, false, false, false, false, false, false, false, false, false, false, false, false, false, false, false, false, false, false] (by kernel_rfl) rfl rfl ⟨(blk_cell BK243.out 0).trans rfl, (blk_cell BK243.out 1).trans rfl, (blk_cell BK243.out 2).trans rfl, (blk_cell BK243.out 3).trans rfl, (blk_cell BK243.out 4).trans rfl, (blk_cell BK240.out 0).trans rfl, (blk_cell BK240.out 1).trans rfl, (blk_cell BK240.out 2).trans rfl⟩ (fun hHeld => ?_); refine with_tabW spec_CrewOk.tab7 spec_CrewOk.bits7 (fun HT_ HW_ => ?_)
  generalize w62.drew = w63 at BK240 BK243 HB hHeld ⊢
  refine pI_ 0 (bqz 44 1) ?_
  refine sI8_ 1 ?_
  refine oI_ 2 28 (bqz 44 7) (fun K hK => ?_)
  refine goes_ Try.func98 (by kernel_rfl) rfl #[.int .i64 ((rd_T37 l1 x5_2).f0), .int .i64 1, .int .i64 99] (by rfl) rfl rfl qz2 ?_
  with_reducible refine (spec_l1In.calls ((rd_T37 l1 x5_2).f0) 1 99 true _ A18.out).mono ?_
  rintro e w' ⟨rfl, ⟨nd, rfl⟩⟩
  refine ⟨_, rfl, ?_⟩
  refine hK.out _ _ (b5A_ BK243 ⟨(blk_cell BK240.out 0).trans rfl, (blk_cell BK240.out 1).trans rfl, (blk_cell BK240.out 2).trans rfl⟩) (fun hHeld => ?_)
  clear hK K
  refine nm_ 28 ?_
  refine jI_ 3 ?_
  refine jI_ 4 ?_
  refine jI_ 6 ?_
  refine sI8_ 5 ?_
  refine sI8_ 7 ?_
  refine oI_ 8 34 (bqz 44 511) (fun K hK => ?_)
  refine goes_ Try.func61 (by kernel_rfl) rfl #[.agg #[.int .i64 a0_0, .int .i64 a0_1, .slice A0_2 l0_2.length c0_2], .int .i64 ((rd_T37 l1 x5_2).f1)] (by rfl) rfl rfl qz2 ?_
  with_reducible refine (spec_l7Free.calls a0_0 a0_1 _ _ l0_2 ((rd_T37 l1 x5_2).f1) false _ ?side1 ?side2 A20.out).mono ?_
  (case side1 => exact qz31)
  (case side2 => exact qz28)
  rintro e w64 ⟨rfl, hb⟩
  refine ⟨_, rfl, ?_⟩
  replace BK240 := bB_ BK240 hb
  replace BK243 := bB_ BK243 hb
  replace HB := bS_ hb
  (try clear hb)
  (try clear hb2)
  (try clear hk)
  (try clear hi)
  refine hK.out _ _ (b5A_ BK243 ⟨(blk_cell BK240.out 0).trans rfl, (blk_cell BK240.out 1).trans rfl, (blk_cell BK240.out 2).trans rfl⟩) (fun hHeld => ?_)
  clear hK K
  refine nm_ 34 ?_
  refine pI_ 9 (bqz 44 1023) ?_
  refine jI_ 10 ?_
  refine jI_ 11 ?_
  refine jU_ 12 ?_
  refine jU_ 13 ?_
  refine jU_ 14 ?_
  refine jU_ 15 ?_
  refine jU_ 16 ?_
  refine jU_ 17 ?_
  refine jU_ 18 ?_
  refine jU_ 19 ?_
  refine jU_ 20 ?_
  refine jU_ 21 ?_
  refine jI_ 22 ?_
  refine jI_ 23 ?_
  refine jU_ 24 ?_
  refine jU_ 25 ?_
  refine jU_ 26 ?_
  refine jU_ 27 ?_
  refine jI_ 28 ?_
  refine jI_ 29 ?_
  refine jU_ 30 ?_
  refine jU_ 31 ?_
  refine jU_ 32 ?_
  refine jU_ 33 ?_
  refine jU_ 34 ?_
  refine jU_ 35 ?_
  refine jU_ 36 ?_
  refine jU_ 37 ?_
  refine jU_ 38 ?_
  refine jU_ 39 ?_
  refine jU_ 40 ?_
  refine jU_ 41 ?_
  refine jU_ 42 ?_
  refine jI_ 43 ?_
  refine dN_ ?_
  try go_wp2
  go_meet
  case rel => exact ⟨_, (true), qz7, H', ⟨by have := HJ2.out; have := HK2.out; first | omega | exact Nat.le_refl _⟩, ⟨bk_ BK240.out⟩, ⟨bk_ BK243.out⟩, ⟨qz1⟩⟩
  }
  }
  {
  have H' := aM H
  clear H
  try go_wp2
  generalize hq_ : (((((w15.setCell ⟨gb243, 0, none⟩ (.int .i64 ((rd_T37 l1 x5_2).f0))).setCell ⟨gb243, 1, none⟩ (.int .i64 ((rd_T37 l1 x5_2).f1))).setCell ⟨gb243, 2, none⟩ (.int .i64 ((rd_T37 l1 x5_2).f2))).setCell ⟨gb243, 3, none⟩ (.bool ((rd_T37 l1 x5_2).f3))).setCell ⟨gb243, 4, none⟩ (.int .i64 ((rd_T37 l1 x5_2).f4))) = w65
  replace BK240 := bqo_ hq_ BK240
  replace BK243 := bq5_ hq_ BK243
  replace HB : Aside0 (Below w.heap.size w w65) := ⟨by rw [← hq_]; exact qz1⟩
  clear hq_
  replace BK240 := aM (blk_drew BK240.out)
  replace BK243 := aM (blk_drew BK243.out)
  replace HB := aM (below_drew1 HB.out)
  refine start_ (n := 44) (S := fun w' => w'.cell? ⟨gb243, 0, none⟩ = some (.int .i64 ((rd_T37 l1 x5_2).f0)) ∧ w'.cell? ⟨gb243, 1, none⟩ = some (.int .i64 ((rd_T37 l1 x5_2).f1)) ∧ w'.cell? ⟨gb243, 2, none⟩ = some (.int .i64 ((rd_T37 l1 x5_2).f2)) ∧ w'.cell? ⟨gb243, 3, none⟩ = some (.bool ((rd_T37 l1 x5_2).f3)) ∧ w'.cell? ⟨gb243, 4, none⟩ = some (.int .i64 ((rd_T37 l1 x5_2).f4))) (ds := []) #[false, false, false, false, false, false, false, false, false, false, false, false, false, false, false, false, false, false, false, false, false, false, false, false, false, false, false, false, false, false, false, false, false, false, false, false, false, false, false, false, false, false, false, false] (by kernel_rfl) rfl rfl ⟨(blk_cell BK243.out 0).trans rfl, (blk_cell BK243.out 1).trans rfl, (blk_cell BK243.out 2).trans rfl, (blk_cell BK243.out 3).trans rfl, (blk_cell BK243.out 4).trans rfl⟩ (fun hHeld => ?_); refine with_tabW spec_CrewOk.tab7 spec_CrewOk.bits7 (fun HT_ HW_ => ?_)
  generalize w65.drew = w66 at BK240 BK243 HB hHeld ⊢
  refine pI_ 0 (bqz 44 1) ?_
  refine sI5_ 1 ?_
  refine oI_ 2 28 (bqz 44 7) (fun K hK => ?_)
  refine goes_ Try.func98 (by kernel_rfl) rfl #[.int .i64 ((rd_T37 l1 x5_2).f0), .int .i64 1, .int .i64 99] (by rfl) rfl rfl qz2 ?_
  with_reducible refine (spec_l1In.calls ((rd_T37 l1 x5_2).f0) 1 99 false _ A18.out).mono ?_
  rintro e w' ⟨rfl, ⟨nd, rfl⟩⟩
  refine ⟨_, rfl, ?_⟩
  refine hK.out _ _ ⟨(blk_cell BK243.out 0).trans rfl, (blk_cell BK243.out 1).trans rfl, (blk_cell BK243.out 2).trans rfl, (blk_cell BK243.out 3).trans rfl, (blk_cell BK243.out 4).trans rfl⟩ (fun hHeld => ?_)
  clear hK K
  refine nm_ 28 ?_
  refine jI_ 3 ?_
  refine jI_ 4 ?_
  refine jU_ 5 ?_
  refine jU_ 6 ?_
  refine jU_ 7 ?_
  refine jU_ 8 ?_
  refine jU_ 9 ?_
  refine jI_ 10 ?_
  refine jI_ 11 ?_
  refine jU_ 12 ?_
  refine jU_ 13 ?_
  refine jU_ 14 ?_
  refine jU_ 15 ?_
  refine jU_ 16 ?_
  refine jU_ 17 ?_
  refine jU_ 18 ?_
  refine jU_ 19 ?_
  refine jU_ 20 ?_
  refine jU_ 21 ?_
  refine jI_ 22 ?_
  refine jI_ 23 ?_
  refine jU_ 24 ?_
  refine jU_ 25 ?_
  refine jU_ 26 ?_
  refine jU_ 27 ?_
  refine jI_ 28 ?_
  refine jI_ 29 ?_
  refine jU_ 30 ?_
  refine jU_ 31 ?_
  refine jU_ 32 ?_
  refine jU_ 33 ?_
  refine jU_ 34 ?_
  refine jU_ 35 ?_
  refine jU_ 36 ?_
  refine jU_ 37 ?_
  refine jU_ 38 ?_
  refine jU_ 39 ?_
  refine jU_ 40 ?_
  refine jU_ 41 ?_
  refine jU_ 42 ?_
  refine jI_ 43 ?_
  refine dN_ ?_
  try go_wp2
  go_meet
  case rel => exact ⟨_, (true), qz7, H', ⟨by have := HJ2.out; have := HK2.out; first | omega | exact Nat.le_refl _⟩, ⟨bk_ BK240.out⟩, ⟨bk_ BK243.out⟩, ⟨qz1⟩⟩
  }
 case rest =>
 clear HC14
 try clear c1
 obtain ⟨kq, x69_13, rfl, HA, HJ13, BK240, BK243, HB⟩ := hcut
 cases kq with
 | zero => exact absurd HA.out (by simp [spec_CrewOk.j2])
 | succ kj13 =>
 have H := HA.out
 clear HA
 simp only [spec_CrewOk.j2] at H
 replace H := iB_ H
 rcases H with ⟨rfl, H⟩ | ⟨rfl, H⟩
 {
 obtain rfl := Option.some.inj H
 go_wp2
 go_ret
 exact ⟨qzw, qz1⟩
 }
 {
 have H' := aM H
 clear H
 go_wp2
 go_loopg [7] kj13 (fun kq v7 w' => ∃ (x7_4 : Int), v7 = .int .i64 x7_4 ∧ Aside0 (spec_CrewOk.l1 kq l1 x5_2 x7_4 a0_0 a0_1 l0_2 ((rd_T37 l1 x5_2).f0) ((rd_T37 l1 x5_2).f1) ((rd_T37 l1 x5_2).f2) ((rd_T37 l1 x5_2).f3) ((rd_T37 l1 x5_2).f4) = some r) ∧ Aside0 (kq ≤ kj13) ∧ Aside0 (w'.heap[gb240]? = some (.cells #[.int .i64 a0_0, .int .i64 a0_1, (.slice A0_2 l0_2.length c0_2)] 43 (0, 0))) ∧ Aside0 (w'.heap[gb243]? = some (.cells #[.int .i64 ((rd_T37 l1 x5_2).f0), .int .i64 ((rd_T37 l1 x5_2).f1), .int .i64 ((rd_T37 l1 x5_2).f2), .bool ((rd_T37 l1 x5_2).f3), .int .i64 ((rd_T37 l1 x5_2).f4)] 37 (0, 0))) ∧ Aside0 (Below w.heap.size w w'))
 case atStart => exact ⟨(0), qz7, H', ⟨Nat.le_refl _⟩, ⟨bk_ BK240.out⟩, ⟨bk_ BK243.out⟩, ⟨qz1⟩⟩
 case round =>
 clear H'
 try clear c1
 try clear c67
 obtain ⟨x7_4, rfl, HA, HK4, BK240, BK243, HB⟩ := hrel
 cases gk with
 | zero => exact absurd HA.out (by simp [spec_CrewOk.l1])
 | succ k4 =>
 have H := HA.out
 clear HA
 simp only [spec_CrewOk.l1] at H
 replace H := iE_ H
 rcases H with ⟨c68b0, H⟩ | ⟨c68b0, H⟩
 {
 replace H := iD_ H
 obtain ⟨c69b0, H⟩ := H
 replace H := iD_ H
 obtain ⟨c70b0, H⟩ := H
 replace H := iQ_ H
 rcases H with ⟨c71b0, c71b1, H⟩ | ⟨c71, c71b0, c71b1, H⟩
 {
 obtain rfl := Option.some.inj H
 try go_wp2
 replace BK240 := aM (blk_drew BK240.out)
 replace BK243 := aM (blk_drew BK243.out)
 replace HB := aM (below_drew1 HB.out)
 have p251 : (0 ≤ (x7_4 : Int)) = True := et_
 have q251 : (x7_4 < (l1.length : Int)) = True := et_
 obtain ⟨ad251, e251, hx251_0, hx251_1, hx251_2, hx251_3, hx251_4⟩ := at_T37 HR1.out x7_4 dt_ dt_
 have hw251_4 := hx251_4
 have hw251_3 := hx251_3
 have hw251_2 := hx251_2
 have hw251_1 := hx251_1
 have hw251_0 := hx251_0
 obtain rfl := iJ_ e251
 replace hx251_0 := cB_ hx251_0
 replace hx251_1 := cB_ hx251_1
 replace hx251_2 := cB_ hx251_2
 replace hx251_3 := cB_ hx251_3
 replace hx251_4 := cB_ hx251_4
 refine start_ (n := 8) (S := fun w' => w'.cell? ⟨gb243, 0, none⟩ = some (.int .i64 ((rd_T37 l1 x5_2).f0)) ∧ w'.cell? ⟨gb243, 1, none⟩ = some (.int .i64 ((rd_T37 l1 x5_2).f1)) ∧ w'.cell? ⟨gb243, 2, none⟩ = some (.int .i64 ((rd_T37 l1 x5_2).f2)) ∧ w'.cell? ⟨gb243, 3, none⟩ = some (.bool ((rd_T37 l1 x5_2).f3)) ∧ w'.cell? ⟨gb243, 4, none⟩ = some (.int .i64 ((rd_T37 l1 x5_2).f4)) ∧ w'.cell? (ad242.add ((x7_4).toNat * 5)) = some (.int .i64 ((rd_T37 l1 x7_4).f0)) ∧ w'.cell? ⟨(ad242.add ((x7_4).toNat * 5)).block, (ad242.add ((x7_4).toNat * 5)).off + 1, none⟩ = some (.int .i64 ((rd_T37 l1 x7_4).f1)) ∧ w'.cell? ⟨(ad242.add ((x7_4).toNat * 5)).block, (ad242.add ((x7_4).toNat * 5)).off + 2, none⟩ = some (.int .i64 ((rd_T37 l1 x7_4).f2)) ∧ w'.cell? ⟨(ad242.add ((x7_4).toNat * 5)).block, (ad242.add ((x7_4).toNat * 5)).off + 3, none⟩ = some (.bool ((rd_T37 l1 x7_4).f3)) ∧ w'.cell? ⟨(ad242.add ((x7_4).toNat * 5)).block, (ad242.add ((x7_4).toNat * 5)).off + 4, none⟩ = some (.int .i64 ((rd_T37 l1 x7_4).f4))) (ds := []) #[false, false, false, false, false, false, false, false] (by kernel_rfl) rfl rfl ⟨(blk_cell BK243.out 0).trans rfl, (blk_cell BK243.out 1).trans rfl, (blk_cell BK243.out 2).trans rfl, (blk_cell BK243.out 3).trans rfl, (blk_cell BK243.out 4).trans rfl, (cB_ hw251_0), (cB_ hw251_1), (cB_ hw251_2), (cB_ hw251_3), (cB_ hw251_4)⟩ (fun hHeld => ?_); refine with_tabW spec_CrewOk.tab12 spec_CrewOk.bits12 (fun HT_ HW_ => ?_)
 generalize wr.drew = w72 at BK240 BK243 HB hx251_0 hx251_1 hx251_2 hx251_3 hx251_4 hHeld ⊢
 refine pI_ 0 (bqz 8 1) ?_
 refine jI_ 1 ?_
 refine jI_ 2 ?_
 refine jI_ 3 ?_
 refine jI_ 5 ?_
 refine sI10_ 4 ?_
 refine sI10_ 6 ?_
 refine jI_ 7 ?_
 refine dN_ ?_
 try go_wp2
 go_ret
 exact ⟨qzw, qz1⟩
 }
 {
 have H' := aM H
 clear H
 try go_wp2
 replace BK240 := aM (blk_drew BK240.out)
 replace BK243 := aM (blk_drew BK243.out)
 replace HB := aM (below_drew1 HB.out)
 have p251 : (0 ≤ (x7_4 : Int)) = True := et_
 have q251 : (x7_4 < (l1.length : Int)) = True := et_
 obtain ⟨ad251, e251, hx251_0, hx251_1, hx251_2, hx251_3, hx251_4⟩ := at_T37 HR1.out x7_4 dt_ dt_
 have hw251_4 := hx251_4
 have hw251_3 := hx251_3
 have hw251_2 := hx251_2
 have hw251_1 := hx251_1
 have hw251_0 := hx251_0
 obtain rfl := iJ_ e251
 replace hx251_0 := cB_ hx251_0
 replace hx251_1 := cB_ hx251_1
 replace hx251_2 := cB_ hx251_2
 replace hx251_3 := cB_ hx251_3
 replace hx251_4 := cB_ hx251_4
 refine start_ (n := 8) (S := fun w' => w'.cell? ⟨gb243, 0, none⟩ = some (.int .i64 ((rd_T37 l1 x5_2).f0)) ∧ w'.cell? ⟨gb243, 1, none⟩ = some (.int .i64 ((rd_T37 l1 x5_2).f1)) ∧ w'.cell? ⟨gb243, 2, none⟩ = some (.int .i64 ((rd_T37 l1 x5_2).f2)) ∧ w'.cell? ⟨gb243, 3, none⟩ = some (.bool ((rd_T37 l1 x5_2).f3)) ∧ w'.cell? ⟨gb243, 4, none⟩ = some (.int .i64 ((rd_T37 l1 x5_2).f4)) ∧ w'.cell? (ad242.add ((x7_4).toNat * 5)) = some (.int .i64 ((rd_T37 l1 x7_4).f0)) ∧ w'.cell? ⟨(ad242.add ((x7_4).toNat * 5)).block, (ad242.add ((x7_4).toNat * 5)).off + 1, none⟩ = some (.int .i64 ((rd_T37 l1 x7_4).f1)) ∧ w'.cell? ⟨(ad242.add ((x7_4).toNat * 5)).block, (ad242.add ((x7_4).toNat * 5)).off + 2, none⟩ = some (.int .i64 ((rd_T37 l1 x7_4).f2)) ∧ w'.cell? ⟨(ad242.add ((x7_4).toNat * 5)).block, (ad242.add ((x7_4).toNat * 5)).off + 3, none⟩ = some (.bool ((rd_T37 l1 x7_4).f3)) ∧ w'.cell? ⟨(ad242.add ((x7_4).toNat * 5)).block, (ad242.add ((x7_4).toNat * 5)).off + 4, none⟩ = some (.int .i64 ((rd_T37 l1 x7_4).f4))) (ds := []) #[false, false, false, false, false, false, false, false] (by kernel_rfl) rfl rfl ⟨(blk_cell BK243.out 0).trans rfl, (blk_cell BK243.out 1).trans rfl, (blk_cell BK243.out 2).trans rfl, (blk_cell BK243.out 3).trans rfl, (blk_cell BK243.out 4).trans rfl, (cB_ hw251_0), (cB_ hw251_1), (cB_ hw251_2), (cB_ hw251_3), (cB_ hw251_4)⟩ (fun hHeld => ?_); refine with_tabW spec_CrewOk.tab12 spec_CrewOk.bits12 (fun HT_ HW_ => ?_)
 generalize wr.drew = w73 at BK240 BK243 HB hx251_0 hx251_1 hx251_2 hx251_3 hx251_4 hHeld ⊢
 refine pI_ 0 (bqz 8 1) ?_
 refine jI_ 1 ?_
 refine jI_ 2 ?_
 refine jI_ 3 ?_
 refine jI_ 5 ?_
 refine sI10_ 4 ?_
 refine sI10_ 6 ?_
 refine jI_ 7 ?_
 refine dN_ ?_
 try go_wp2
 go_roundg k4
 case measure => have := HJ2.out; have := HK2.out; have := HJ13.out; have := HK4.out; omega
 case rel => exact ⟨(wrap64 (x7_4 + 1)), qz7, H', ⟨by have := HJ2.out; have := HK2.out; have := HJ13.out; have := HK4.out; omega⟩, ⟨bk_ BK240.out⟩, ⟨bk_ BK243.out⟩, ⟨qz1⟩⟩
 }
 }
 {
 have H' := aM H
 clear H
 go_wp2
 go_roundg k4
 case measure => have := HJ2.out; have := HK2.out; have := HJ13.out; have := HK4.out; omega
 case rel => exact ⟨(wrap64 (x5_2 + 1)), qz7, H', ⟨by have := HJ2.out; have := HK2.out; have := HJ13.out; have := HK4.out; omega⟩, ⟨bk_ BK240.out⟩, ⟨qz1⟩⟩
 }
 }
 }
 {
 obtain rfl := Option.some.inj H
 go_wp2
 go_ret
 exact ⟨qzw, qz1⟩
 }
 }
/-! ### spec_l6Among: function 77 -/
def spec_l6Among.l0 : Nat → List Int → Int → Int → Option (Bool)
 | 0, _, _, _ => none
 | k + 1, x0, x1, x5 => if x5 < (x0.length : Int) then (if 0 ≤ x5 then (if (rd x0 x5) = x1 then (some true) else (spec_l6Among.l0 k x0 x1 (wrap64 (x5 + 1)))) else (none)) else (some false)
def spec_l6Among.f (k : Nat) (l0 : List Int) (a1 : Int) : Option (Bool) := spec_l6Among.l0 k l0 a1 0
theorem spec_l6Among.mono_l : ∀ k, (∀ y0 y1 y2, LeO (spec_l6Among.l0 k y0 y1 y2) (spec_l6Among.l0 (k + 1) y0 y1 y2))
 | 0 => fun _ _ _ r h => by simp [spec_l6Among.l0] at h
 | k + 1 => by
  have ih0 := spec_l6Among.mono_l k
  {
  intro y0 y1 y2
  unfold spec_l6Among.l0
  exact qL
  }
theorem spec_l6Among.mono : ∀ a0 a1 k, LeO (spec_l6Among.f k a0 a1) (spec_l6Among.f (k + 1) a0 a1) := by
 intro a0 a1 k
 have ih0 := spec_l6Among.mono_l k
 unfold spec_l6Among.f
 exact qL
theorem spec_l6Among.calls (k : Nat) (A0 : Option Addr) (c0 : Nat) (l0 : List Int) (a1 : Int) (r : Bool) (w : World) (hr0 : Kd.C (Kd.int .i64) w A0 l0.length l0) (hc0 : l0.length ≤ c0) (h : spec_l6Among.f k l0 a1 = some r) :
  Calls Try.prog 77 #[.slice A0 l0.length c0, .int .i64 a1] w fun e w' => e = .returned (.bool r) ∧ Drawn0 w w' := by
 have HR0 := aM hr0
 have HC0 := aM hc0
 clear hr0 hc0
 have H : (spec_l6Among.l0 k l0 a1 0) = some r := h
 clear h
 have H' := aM H
 clear H
 go_enter Try.func77, Try.ntmps77
 go_wp2
 go_loopg [5] k (fun kq v5 w' => ∃ (x5_1 : Int), v5 = .int .i64 x5_1 ∧ Aside0 (spec_l6Among.l0 kq l0 a1 x5_1 = some r) ∧ Aside0 (kq ≤ k) ∧ Drawn0 w w')
 case atStart => exact ⟨(0), qz7, H', ⟨Nat.le_refl _⟩, by repeat (first | exact Drawn0.refl _ | apply Drawn0.step)⟩
 case round =>
 clear H'
 obtain ⟨x5_1, rfl, HA, HK1, ⟨m1, rfl⟩⟩ := hrel
 cases gk with
 | zero => exact absurd HA.out (by simp [spec_l6Among.l0])
 | succ k1 =>
 have H := HA.out
 clear HA
 simp only [spec_l6Among.l0] at H
 replace H := iE_ H
 rcases H with ⟨c3b0, H⟩ | ⟨c3b0, H⟩
 {
 replace H := iD_ H
 obtain ⟨c4b0, H⟩ := H
 replace H := iQ_ H
 rcases H with ⟨c5b0, c5b1, H⟩ | ⟨c5, c5b0, c5b1, H⟩
 {
 obtain rfl := Option.some.inj H
 have p252 : (0 ≤ (x5_1 : Int)) = True := et_
 have q252 : (x5_1 < (l0.length : Int)) = True := et_
 obtain ⟨ad252, e252, hx252_0⟩ := Kd.at_int HR0.out x5_1 dt_ dt_
 cases e252
 go_wp2
 go_ret
 exact ⟨by first | rfl | (simp; done) | (simp [*]; done), by repeat (first | exact Drawn0.refl _ | apply Drawn0.step)⟩
 }
 {
 have H' := aM H
 clear H
 have p252 : (0 ≤ (x5_1 : Int)) = True := et_
 have q252 : (x5_1 < (l0.length : Int)) = True := et_
 obtain ⟨ad252, e252, hx252_0⟩ := Kd.at_int HR0.out x5_1 dt_ dt_
 cases e252
 go_wp2
 go_roundg k1
 case measure => have := HK1.out; omega
 case rel => exact ⟨(wrap64 (x5_1 + 1)), qz7, H', ⟨by have := HK1.out; omega⟩, by repeat (first | exact Drawn0.refl _ | apply Drawn0.step)⟩
 }
 }
 {
 obtain rfl := Option.some.inj H
 go_wp2
 go_ret
 exact ⟨by first | rfl | (simp; done) | (simp [*]; done), by repeat (first | exact Drawn0.refl _ | apply Drawn0.step)⟩
 }
end Go.Proofs.Ytankmdbbgepmbaa.PFnClashes
