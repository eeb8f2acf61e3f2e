-- Made by a program of this session out of the translation. Lean checks it.
import Derived.Test.YtankmdbbgepmbaaPFnChosenx12
namespace Go.Proofs.Ytankmdbbgepmbaa.PFnChosen
open Go.RowKit Go.Proofs.YtankmdbbgepmbaaW.PrintWords Go.Proofs.YtankmdbbgepmbaaW.PrintLast Go.Proofs.YtankmdbbgepmbaaW.PrintMore
attribute [local go_sem] max2_int min2_int max_two min_two max_three min_three max_four min_four   -- for this text's walks alone
set_option linter.unusedVariables false
set_option linter.unusedSimpArgs false

/-! ### spec_l7Bend: function 97 -/
def spec_l7Bend.f (s0_0 : List Int) (s0_1 : Int) (s0_2 : Int) (l1 : List (S37)) : Option ((List (S37)) × Int × Int) := (some (([] : List (S37)) : List (S37))).bind fun y401 => (if y401.length + l1.length < 3518437208883 then ((some (y401 ++ l1 : List (S37))).bind fun y404 => (if (y404.length : Int) = 0 then (some (y404, s0_1, s0_2)) else ((spec_l1Below.f s0_0 s0_1 s0_2 (y404.length : Int)).bind fun bt407 => ((spec_l1Below.f s0_0 bt407.2.1 bt407.2.2 6).bind fun bt410 => (if bt410.1 = 0 then ((spec_l1Int.f s0_0 bt410.2.1 bt410.2.2 (([(-1), 0, 99] : List Int))).bind fun bt416 => (if 0 ≤ bt407.1 then (if bt407.1 < (y404.length : Int) then (some ((y404.set (bt407.1 : Int).toNat (⟨(rd_T37 y404 bt407.1).f0, bt416.1, (rd_T37 y404 bt407.1).f2, (rd_T37 y404 bt407.1).f3, (rd_T37 y404 bt407.1).f4⟩ : S37)), bt416.2.1, bt416.2.2)) else (none)) else (none))) else (if bt410.1 = 1 then ((spec_l1Int.f s0_0 bt410.2.1 bt410.2.2 (([(-2), 0, 100] : List Int))).bind fun bt423 => (if 0 ≤ bt407.1 then (if bt407.1 < (y404.length : Int) then (some ((y404.set (bt407.1 : Int).toNat (⟨(rd_T37 y404 bt407.1).f0, (rd_T37 y404 bt407.1).f1, bt423.1, (rd_T37 y404 bt407.1).f3, (rd_T37 y404 bt407.1).f4⟩ : S37)), bt423.2.1, bt423.2.2)) else (none)) else (none))) else (if bt410.1 = 2 then ((spec_l1Int.f s0_0 bt410.2.1 bt410.2.2 (([0, 1, 100] : List Int))).bind fun bt430 => (if 0 ≤ bt407.1 then (if bt407.1 < (y404.length : Int) then (some ((y404.set (bt407.1 : Int).toNat (⟨bt430.1, (rd_T37 y404 bt407.1).f1, (rd_T37 y404 bt407.1).f2, (rd_T37 y404 bt407.1).f3, (rd_T37 y404 bt407.1).f4⟩ : S37)), bt430.2.1, bt430.2.2)) else (none)) else (none))) else (if bt410.1 = 3 then ((spec_l1Int.f s0_0 bt410.2.1 bt410.2.2 (([(-1), 1000000, 1000001] : List Int))).bind fun bt437 => (if 0 ≤ bt407.1 then (if bt407.1 < (y404.length : Int) then (some ((y404.set (bt407.1 : Int).toNat (⟨(rd_T37 y404 bt407.1).f0, (rd_T37 y404 bt407.1).f1, (rd_T37 y404 bt407.1).f2, (rd_T37 y404 bt407.1).f3, bt437.1⟩ : S37)), bt437.2.1, bt437.2.2)) else (none)) else (none))) else (some (y404, bt410.2.1, bt410.2.2)))))))))) else (none))
set_option maxHeartbeats 8000000 in
set_option maxRecDepth 100000 in
theorem spec_l7Bend.calls (g : Nat) (s0_0 : List Int) (s0_1 : Int) (s0_2 : Int) (A1 : Option Addr) (c1 : Nat) (l1 : List (S37)) (r1 : List (S37)) (r2 : Int) (r3 : Int) (w0 w : World) (hI : IsS113 w0 w g s0_0 s0_1 s0_2) (hB : Below w0.heap.size w0 w) (hr1 : ∀ W_, KeepBut w W_ g none → Kd.C k37 W_ A1 l1.length l1) (hc1 : l1.length ≤ c1) (h : spec_l7Bend.f s0_0 s0_1 s0_2 l1 = some (r1, r2, r3)) :
  Calls Try.prog 97 #[.pointer (some ⟨g, 0, none⟩), .slice A1 l1.length c1] w fun e w' => ∃ v0_ : Value, e = .returned (v0_) ∧ Kd.R k37 37 w' w.heap.size (fun _ => True) v0_ r1 ∧ IsS113 w0 w' g s0_0 r2 r3 ∧ Below w0.heap.size w0 w' ∧ KeepBut w w' g none := by
 have HR1 := aM hr1
 have HC1 := aM hc1
 clear hr1 hc1
 have HI0 := aM hI
 have HK := aM (KeepBut.refl w g none)
 have HL := aM hB.size
 clear hI
 have HW0 := aM hB.size
 have HB := aM hB
 clear hB
 have H : ((some (([] : List (S37)) : List (S37))).bind fun y401 => (if y401.length + l1.length < 3518437208883 then ((some (y401 ++ l1 : List (S37))).bind fun y404 => (if (y404.length : Int) = 0 then (some (y404, s0_1, s0_2)) else ((spec_l1Below.f s0_0 s0_1 s0_2 (y404.length : Int)).bind fun bt407 => ((spec_l1Below.f s0_0 bt407.2.1 bt407.2.2 6).bind fun bt410 => (if bt410.1 = 0 then ((spec_l1Int.f s0_0 bt410.2.1 bt410.2.2 (([(-1), 0, 99] : List Int))).bind fun bt416 => (if 0 ≤ bt407.1 then (if bt407.1 < (y404.length : Int) then (some ((y404.set (bt407.1 : Int).toNat (⟨(rd_T37 y404 bt407.1).f0, bt416.1, (rd_T37 y404 bt407.1).f2, (rd_T37 y404 bt407.1).f3, (rd_T37 y404 bt407.1).f4⟩ : S37)), bt416.2.1, bt416.2.2)) else (none)) else (none))) else (if bt410.1 = 1 then ((spec_l1Int.f s0_0 bt410.2.1 bt410.2.2 (([(-2), 0, 100] : List Int))).bind fun bt423 => (if 0 ≤ bt407.1 then (if bt407.1 < (y404.length : Int) then (some ((y404.set (bt407.1 : Int).toNat (⟨(rd_T37 y404 bt407.1).f0, (rd_T37 y404 bt407.1).f1, bt423.1, (rd_T37 y404 bt407.1).f3, (rd_T37 y404 bt407.1).f4⟩ : S37)), bt423.2.1, bt423.2.2)) else (none)) else (none))) else (if bt410.1 = 2 then ((spec_l1Int.f s0_0 bt410.2.1 bt410.2.2 (([0, 1, 100] : List Int))).bind fun bt430 => (if 0 ≤ bt407.1 then (if bt407.1 < (y404.length : Int) then (some ((y404.set (bt407.1 : Int).toNat (⟨bt430.1, (rd_T37 y404 bt407.1).f1, (rd_T37 y404 bt407.1).f2, (rd_T37 y404 bt407.1).f3, (rd_T37 y404 bt407.1).f4⟩ : S37)), bt430.2.1, bt430.2.2)) else (none)) else (none))) else (if bt410.1 = 3 then ((spec_l1Int.f s0_0 bt410.2.1 bt410.2.2 (([(-1), 1000000, 1000001] : List Int))).bind fun bt437 => (if 0 ≤ bt407.1 then (if bt407.1 < (y404.length : Int) then (some ((y404.set (bt407.1 : Int).toNat (⟨(rd_T37 y404 bt407.1).f0, (rd_T37 y404 bt407.1).f1, (rd_T37 y404 bt407.1).f2, (rd_T37 y404 bt407.1).f3, bt437.1⟩ : S37)), bt437.2.1, bt437.2.2)) else (none)) else (none))) else (some (y404, bt410.2.1, bt410.2.2)))))))))) else (none))) = some (r1, r2, r3) := h
 clear h
 obtain ⟨y401, hy401⟩ : ∃ y_ : List (S37), y_ = (([] : List (S37))) := ⟨_, rfl⟩
 replace H : (if y401.length + l1.length < 3518437208883 then ((some (y401 ++ l1 : List (S37))).bind fun y404 => (if (y404.length : Int) = 0 then (some (y404, s0_1, s0_2)) else ((spec_l1Below.f s0_0 s0_1 s0_2 (y404.length : Int)).bind fun bt407 => ((spec_l1Below.f s0_0 bt407.2.1 bt407.2.2 6).bind fun bt410 => (if bt410.1 = 0 then ((spec_l1Int.f s0_0 bt410.2.1 bt410.2.2 (([(-1), 0, 99] : List Int))).bind fun bt416 => (if 0 ≤ bt407.1 then (if bt407.1 < (y404.length : Int) then (some ((y404.set (bt407.1 : Int).toNat (⟨(rd_T37 y404 bt407.1).f0, bt416.1, (rd_T37 y404 bt407.1).f2, (rd_T37 y404 bt407.1).f3, (rd_T37 y404 bt407.1).f4⟩ : S37)), bt416.2.1, bt416.2.2)) else (none)) else (none))) else (if bt410.1 = 1 then ((spec_l1Int.f s0_0 bt410.2.1 bt410.2.2 (([(-2), 0, 100] : List Int))).bind fun bt423 => (if 0 ≤ bt407.1 then (if bt407.1 < (y404.length : Int) then (some ((y404.set (bt407.1 : Int).toNat (⟨(rd_T37 y404 bt407.1).f0, (rd_T37 y404 bt407.1).f1, bt423.1, (rd_T37 y404 bt407.1).f3, (rd_T37 y404 bt407.1).f4⟩ : S37)), bt423.2.1, bt423.2.2)) else (none)) else (none))) else (if bt410.1 = 2 then ((spec_l1Int.f s0_0 bt410.2.1 bt410.2.2 (([0, 1, 100] : List Int))).bind fun bt430 => (if 0 ≤ bt407.1 then (if bt407.1 < (y404.length : Int) then (some ((y404.set (bt407.1 : Int).toNat (⟨bt430.1, (rd_T37 y404 bt407.1).f1, (rd_T37 y404 bt407.1).f2, (rd_T37 y404 bt407.1).f3, (rd_T37 y404 bt407.1).f4⟩ : S37)), bt430.2.1, bt430.2.2)) else (none)) else (none))) else (if bt410.1 = 3 then ((spec_l1Int.f s0_0 bt410.2.1 bt410.2.2 (([(-1), 1000000, 1000001] : List Int))).bind fun bt437 => (if 0 ≤ bt407.1 then (if bt407.1 < (y404.length : Int) then (some ((y404.set (bt407.1 : Int).toNat (⟨(rd_T37 y404 bt407.1).f0, (rd_T37 y404 bt407.1).f1, (rd_T37 y404 bt407.1).f2, (rd_T37 y404 bt407.1).f3, bt437.1⟩ : S37)), bt437.2.1, bt437.2.2)) else (none)) else (none))) else (some (y404, bt410.2.1, bt410.2.2)))))))))) else (none)) = some (r1, r2, r3) := by first | (rw [hy401]; with_reducible exact H) | (have H2_ := (Option.bind_some _ _).symm.trans H; rw [hy401]; with_reducible exact H2_) | (have H2_ := (Option.bind_some _ _).symm.trans H; with_reducible exact H2_) | with_reducible exact H | (rw [hy401]; exact H) | exact H
 have Ny401 := aM hy401
 clear hy401
 by_cases c3 : y401.length + l1.length < 3518437208883
 {
 rw [if_pos c3] at H
 have LMc3 := aM c3
 clear c3
 obtain ⟨y404, hy404⟩ : ∃ y_ : List (S37), y_ = (y401 ++ l1) := ⟨_, rfl⟩
 replace H : (if (y404.length : Int) = 0 then (some (y404, s0_1, s0_2)) else ((spec_l1Below.f s0_0 s0_1 s0_2 (y404.length : Int)).bind fun bt407 => ((spec_l1Below.f s0_0 bt407.2.1 bt407.2.2 6).bind fun bt410 => (if bt410.1 = 0 then ((spec_l1Int.f s0_0 bt410.2.1 bt410.2.2 (([(-1), 0, 99] : List Int))).bind fun bt416 => (if 0 ≤ bt407.1 then (if bt407.1 < (y404.length : Int) then (some ((y404.set (bt407.1 : Int).toNat (⟨(rd_T37 y404 bt407.1).f0, bt416.1, (rd_T37 y404 bt407.1).f2, (rd_T37 y404 bt407.1).f3, (rd_T37 y404 bt407.1).f4⟩ : S37)), bt416.2.1, bt416.2.2)) else (none)) else (none))) else (if bt410.1 = 1 then ((spec_l1Int.f s0_0 bt410.2.1 bt410.2.2 (([(-2), 0, 100] : List Int))).bind fun bt423 => (if 0 ≤ bt407.1 then (if bt407.1 < (y404.length : Int) then (some ((y404.set (bt407.1 : Int).toNat (⟨(rd_T37 y404 bt407.1).f0, (rd_T37 y404 bt407.1).f1, bt423.1, (rd_T37 y404 bt407.1).f3, (rd_T37 y404 bt407.1).f4⟩ : S37)), bt423.2.1, bt423.2.2)) else (none)) else (none))) else (if bt410.1 = 2 then ((spec_l1Int.f s0_0 bt410.2.1 bt410.2.2 (([0, 1, 100] : List Int))).bind fun bt430 => (if 0 ≤ bt407.1 then (if bt407.1 < (y404.length : Int) then (some ((y404.set (bt407.1 : Int).toNat (⟨bt430.1, (rd_T37 y404 bt407.1).f1, (rd_T37 y404 bt407.1).f2, (rd_T37 y404 bt407.1).f3, (rd_T37 y404 bt407.1).f4⟩ : S37)), bt430.2.1, bt430.2.2)) else (none)) else (none))) else (if bt410.1 = 3 then ((spec_l1Int.f s0_0 bt410.2.1 bt410.2.2 (([(-1), 1000000, 1000001] : List Int))).bind fun bt437 => (if 0 ≤ bt407.1 then (if bt407.1 < (y404.length : Int) then (some ((y404.set (bt407.1 : Int).toNat (⟨(rd_T37 y404 bt407.1).f0, (rd_T37 y404 bt407.1).f1, (rd_T37 y404 bt407.1).f2, (rd_T37 y404 bt407.1).f3, bt437.1⟩ : S37)), bt437.2.1, bt437.2.2)) else (none)) else (none))) else (some (y404, bt410.2.1, bt410.2.2))))))))) = some (r1, r2, r3) := by first | (rw [hy404]; with_reducible exact H) | (have H2_ := (Option.bind_some _ _).symm.trans H; rw [hy404]; with_reducible exact H2_) | (have H2_ := (Option.bind_some _ _).symm.trans H; with_reducible exact H2_) | with_reducible exact H | (rw [hy404]; exact H) | exact H
 have Ny404 := aM hy404
 clear hy404
 by_cases c4 : (y404.length : Int) = 0
 {
 rw [if_pos c4] at H
 have c4b0 := beq_iff_eq.mpr c4
 have c4b1 := bne_eq_false_iff_eq.mpr c4
 clear c4
 simp only [Option.some.injEq, Prod.mk.injEq] at H
 obtain ⟨rfl, rfl, rfl⟩ := H
 go_enter Try.func97, Try.ntmps97
 go_wp2_with (first | ((with_reducible refine gate_dst (N := 7) rfl ?_); refine Kd.R_lit k37 _ 37 ?hg (N := 7) ?hd (xs := ([] : List (S37))) (inner := []) (ok := fun _ => True) (okp := fun _ => True) ?hr ?hp (fun _ hk => hk) trivial (Below.refl _ _) (Nat.le_refl _) (by simp) ?_; (case hd => rfl); (case hg => rfl); (case hr => exact qz10); (case hp => exact qz30); intro v402 w5 ho6 hb hg_ hnew_; clear hg_ hnew_; (first | rw [← Ny401.out] at ho6 | (simp only [Int.reduceToNat] at ho6; rw [← Ny401.out] at ho6)); have HO403 := aM (Kd.R_lower ho6 (keep_size (w := w) (g := g) (row := none) qz2)); replace HK := aM (KeepBut.trans qz2 (KeepBut.of_below hb g none) (.inl rfl)); replace HB := bS_ hb; replace HI0 := aM (IsS113.below qz3 hb); clear hb ho6) | ((with_reducible refine gate_builtin (b := .append) (xs := #[.tmp 7, .tmp 8]) rfl ?_); at_builtin; refine Kd.R_append_rows k37 w.heap.size rfl (.tmp 7) (.tmp 8) 26 37 (.agg #[(.int .i64 0), (.int .i64 0), (.int .i64 0), (.bool false), (.int .i64 0)]) 40 rfl Try.underlying26 info37 rfl (by decide) (by omega) v402 y401 l1 _ _ _ (fun _ => True) (fun _ => False) rfl rfl ?aO ?aR (fun _ _ h => h) (fun _ h => h.elim) ?aF (Below.refl _ _) ?aS ?aL ?_; (case aR => exact Kd.C_foot_now HR1.out qz2); (case aF => exact qz21); (case aO => exact (rr_ HO403.out)); (case aS => exact (keep_size (w := w) (g := g) (row := none) qz2)); (case aL => have := LMc3.out; omega); intro v405 w7 ho hb hg hat; rw [← Ny404.out] at ho; replace HB := aM (below_weaken qz1 HL.out hb); replace HI0 := aM (IsS113.grown qz3 hg (IsS113.own_ne HI0.out HO403.out (by decide))); replace HK := aM (KeepBut.trans qz2 (KeepBut.of_grown hg g) (Kd.R_base2 HO403.out)); have HO406 := aM (ho); clear HO403; clear ho hb hg hat; obtain ⟨Ao8, co8, eo8⟩ := Kd.R_slice HO406.out; subst eo8))
 go_ret
 exact ⟨_, qzw, by (with_reducible repeat (first | apply Kd.R_alloc | apply Kd.R_drewN | apply Kd.R_drew)); exact HO406.out, qz3, qz1, qz2⟩
 }
 {
 rw [if_neg c4] at H
 have c4b0 := beq_eq_false_iff_ne.mpr c4
 have c4b1 := bne_iff_ne.mpr c4
 have c4b2 : ¬ (y404 = []) := fun h_ => c4 (by rw [h_]; rfl)
 replace H := Option.bind_eq_some_iff.mp H
 obtain ⟨⟨t407, t408, t409⟩, A90, H⟩ := H
 replace H : ((spec_l1Below.f s0_0 t408 t409 6).bind fun bt410 => (if bt410.1 = 0 then ((spec_l1Int.f s0_0 bt410.2.1 bt410.2.2 (([(-1), 0, 99] : List Int))).bind fun bt416 => (if 0 ≤ t407 then (if t407 < (y404.length : Int) then (some ((y404.set (t407 : Int).toNat (⟨(rd_T37 y404 t407).f0, bt416.1, (rd_T37 y404 t407).f2, (rd_T37 y404 t407).f3, (rd_T37 y404 t407).f4⟩ : S37)), bt416.2.1, bt416.2.2)) else (none)) else (none))) else (if bt410.1 = 1 then ((spec_l1Int.f s0_0 bt410.2.1 bt410.2.2 (([(-2), 0, 100] : List Int))).bind fun bt423 => (if 0 ≤ t407 then (if t407 < (y404.length : Int) then (some ((y404.set (t407 : Int).toNat (⟨(rd_T37 y404 t407).f0, (rd_T37 y404 t407).f1, bt423.1, (rd_T37 y404 t407).f3, (rd_T37 y404 t407).f4⟩ : S37)), bt423.2.1, bt423.2.2)) else (none)) else (none))) else (if bt410.1 = 2 then ((spec_l1Int.f s0_0 bt410.2.1 bt410.2.2 (([0, 1, 100] : List Int))).bind fun bt430 => (if 0 ≤ t407 then (if t407 < (y404.length : Int) then (some ((y404.set (t407 : Int).toNat (⟨bt430.1, (rd_T37 y404 t407).f1, (rd_T37 y404 t407).f2, (rd_T37 y404 t407).f3, (rd_T37 y404 t407).f4⟩ : S37)), bt430.2.1, bt430.2.2)) else (none)) else (none))) else (if bt410.1 = 3 then ((spec_l1Int.f s0_0 bt410.2.1 bt410.2.2 (([(-1), 1000000, 1000001] : List Int))).bind fun bt437 => (if 0 ≤ t407 then (if t407 < (y404.length : Int) then (some ((y404.set (t407 : Int).toNat (⟨(rd_T37 y404 t407).f0, (rd_T37 y404 t407).f1, (rd_T37 y404 t407).f2, (rd_T37 y404 t407).f3, bt437.1⟩ : S37)), bt437.2.1, bt437.2.2)) else (none)) else (none))) else (some (y404, bt410.2.1, bt410.2.2))))))) = some (r1, r2, r3) := H
 have A9 := aM A90
 clear A90
 replace H := Option.bind_eq_some_iff.mp H
 obtain ⟨⟨t410, t411, t412⟩, A100, H⟩ := H
 replace H : (if t410 = 0 then ((spec_l1Int.f s0_0 t411 t412 (([(-1), 0, 99] : List Int))).bind fun bt416 => (if 0 ≤ t407 then (if t407 < (y404.length : Int) then (some ((y404.set (t407 : Int).toNat (⟨(rd_T37 y404 t407).f0, bt416.1, (rd_T37 y404 t407).f2, (rd_T37 y404 t407).f3, (rd_T37 y404 t407).f4⟩ : S37)), bt416.2.1, bt416.2.2)) else (none)) else (none))) else (if t410 = 1 then ((spec_l1Int.f s0_0 t411 t412 (([(-2), 0, 100] : List Int))).bind fun bt423 => (if 0 ≤ t407 then (if t407 < (y404.length : Int) then (some ((y404.set (t407 : Int).toNat (⟨(rd_T37 y404 t407).f0, (rd_T37 y404 t407).f1, bt423.1, (rd_T37 y404 t407).f3, (rd_T37 y404 t407).f4⟩ : S37)), bt423.2.1, bt423.2.2)) else (none)) else (none))) else (if t410 = 2 then ((spec_l1Int.f s0_0 t411 t412 (([0, 1, 100] : List Int))).bind fun bt430 => (if 0 ≤ t407 then (if t407 < (y404.length : Int) then (some ((y404.set (t407 : Int).toNat (⟨bt430.1, (rd_T37 y404 t407).f1, (rd_T37 y404 t407).f2, (rd_T37 y404 t407).f3, (rd_T37 y404 t407).f4⟩ : S37)), bt430.2.1, bt430.2.2)) else (none)) else (none))) else (if t410 = 3 then ((spec_l1Int.f s0_0 t411 t412 (([(-1), 1000000, 1000001] : List Int))).bind fun bt437 => (if 0 ≤ t407 then (if t407 < (y404.length : Int) then (some ((y404.set (t407 : Int).toNat (⟨(rd_T37 y404 t407).f0, (rd_T37 y404 t407).f1, (rd_T37 y404 t407).f2, (rd_T37 y404 t407).f3, bt437.1⟩ : S37)), bt437.2.1, bt437.2.2)) else (none)) else (none))) else (some (y404, t411, t412)))))) = some (r1, r2, r3) := H
 have A10 := aM A100
 clear A100
 by_cases c11 : t410 = 0
 {
 rw [if_pos c11] at H
 have c11b0 := beq_iff_eq.mpr c11
 have c11b1 := bne_eq_false_iff_eq.mpr c11
 clear c11
 obtain ⟨y413, hy413⟩ : ∃ y_ : List Int, y_ = (([(-1), 0, 99] : List Int)) := ⟨_, rfl⟩
 replace H : ((spec_l1Int.f s0_0 t411 t412 y413).bind fun bt416 => (if 0 ≤ t407 then (if t407 < (y404.length : Int) then (some ((y404.set (t407 : Int).toNat (⟨(rd_T37 y404 t407).f0, bt416.1, (rd_T37 y404 t407).f2, (rd_T37 y404 t407).f3, (rd_T37 y404 t407).f4⟩ : S37)), bt416.2.1, bt416.2.2)) else (none)) else (none))) = some (r1, r2, r3) := by first | (rw [hy413]; with_reducible exact H) | (have H2_ := (Option.bind_some _ _).symm.trans H; rw [hy413]; with_reducible exact H2_) | (have H2_ := (Option.bind_some _ _).symm.trans H; with_reducible exact H2_) | with_reducible exact H | (rw [hy413]; exact H) | exact H
 have Ny413 := aM hy413
 clear hy413
 replace H := Option.bind_eq_some_iff.mp H
 obtain ⟨⟨t416, t417, t418⟩, A120, H⟩ := H
 replace H : (if 0 ≤ t407 then (if t407 < (y404.length : Int) then (some ((y404.set (t407 : Int).toNat (⟨(rd_T37 y404 t407).f0, t416, (rd_T37 y404 t407).f2, (rd_T37 y404 t407).f3, (rd_T37 y404 t407).f4⟩ : S37)), t417, t418)) else (none)) else (none)) = some (r1, r2, r3) := H
 have A12 := aM A120
 clear A120
 by_cases c13 : 0 ≤ t407
 {
 rw [if_pos c13] at H
 have c13b0 := decide_eq_true c13
 clear c13
 by_cases c14 : t407 < (y404.length : Int)
 {
 rw [if_pos c14] at H
 have c14b0 := decide_eq_true c14
 clear c14
 obtain ⟨y419, hy419⟩ : ∃ y_ : List (S37), y_ = (y404.set (t407 : Int).toNat (⟨(rd_T37 y404 t407).f0, t416, (rd_T37 y404 t407).f2, (rd_T37 y404 t407).f3, (rd_T37 y404 t407).f4⟩ : S37)) := ⟨_, rfl⟩
 replace H : (some (y419, t417, t418)) = some (r1, r2, r3) := by first | (rw [hy419]; with_reducible exact H) | (have H2_ := (Option.bind_some _ _).symm.trans H; rw [hy419]; with_reducible exact H2_) | (have H2_ := (Option.bind_some _ _).symm.trans H; with_reducible exact H2_) | with_reducible exact H | (rw [hy419]; exact H) | exact H
 have Ny419 := aM hy419
 clear hy419
 simp only [Option.some.injEq, Prod.mk.injEq] at H
 obtain ⟨rfl, rfl, rfl⟩ := H
 go_enter Try.func97, Try.ntmps97
 go_wp2_with (first | ((with_reducible refine gate_dst (N := 7) rfl ?_); refine Kd.R_lit k37 _ 37 ?hg (N := 7) ?hd (xs := ([] : List (S37))) (inner := []) (ok := fun _ => True) (okp := fun _ => True) ?hr ?hp (fun _ hk => hk) trivial (Below.refl _ _) (Nat.le_refl _) (by simp) ?_; (case hd => rfl); (case hg => rfl); (case hr => exact qz10); (case hp => exact qz30); intro v402 w16 ho17 hb hg_ hnew_; clear hg_ hnew_; (first | rw [← Ny401.out] at ho17 | (simp only [Int.reduceToNat] at ho17; rw [← Ny401.out] at ho17)); have HO403 := aM (Kd.R_lower ho17 (keep_size (w := w) (g := g) (row := none) qz2)); replace HK := aM (KeepBut.trans qz2 (KeepBut.of_below hb g none) (.inl rfl)); replace HB := bS_ hb; replace HI0 := aM (IsS113.below qz3 hb); clear hb ho17) | ((with_reducible refine gate_builtin (b := .append) (xs := #[.tmp 7, .tmp 8]) rfl ?_); at_builtin; refine Kd.R_append_rows k37 w.heap.size rfl (.tmp 7) (.tmp 8) 26 37 (.agg #[(.int .i64 0), (.int .i64 0), (.int .i64 0), (.bool false), (.int .i64 0)]) 40 rfl Try.underlying26 info37 rfl (by decide) (by omega) v402 y401 l1 _ _ _ (fun _ => True) (fun _ => False) rfl rfl ?aO ?aR (fun _ _ h => h) (fun _ h => h.elim) ?aF (Below.refl _ _) ?aS ?aL ?_; (case aR => exact Kd.C_foot_now HR1.out qz2); (case aF => exact qz21); (case aO => exact (rr_ HO403.out)); (case aS => exact (keep_size (w := w) (g := g) (row := none) qz2)); (case aL => have := LMc3.out; omega); intro v405 w18 ho hb hg hat; rw [← Ny404.out] at ho; replace HB := aM (below_weaken qz1 HL.out hb); replace HI0 := aM (IsS113.grown qz3 hg (IsS113.own_ne HI0.out HO403.out (by decide))); replace HK := aM (KeepBut.trans qz2 (KeepBut.of_grown hg g) (Kd.R_base2 HO403.out)); have HO406 := aM (ho); clear HO403; clear ho hb hg hat; obtain ⟨Ao19, co19, eo19⟩ := Kd.R_slice HO406.out; subst eo19) | ((with_reducible refine gate_callee (f := 73) rfl ?_); refine goesL_ (some 17) rfl rfl Try.func73 (by kernel_rfl) rfl #[.pointer (some ⟨g, 0, none⟩), .int .i64 (y404.length : Int)] rfl qz4 ?_; (with_reducible refine (spec_l1Below.calls g s0_0 s0_1 s0_2 (y404.length : Int) t407 t408 t409 w0 _ ?side1 ?side2 A9.out).mono ?_); (case side1 => exact qz3); (case side2 => exact qz1); rintro e w20 ⟨rfl, hi, hb, hk⟩; refine ⟨_, rfl, ?_⟩; replace HO406 := aM (Kd.R_mono (Kd.R_keep (IsS113.apart (show IsS113 w0 _ g s0_0 s0_1 s0_2 from qz3) (rr_ HO406.out) (by decide)) hk (fun _ h => h.2)) (fun _ h => h.1)); replace HK := aM (KeepBut.trans qz2 hk (.inl rfl)); replace HB := aM (hb); replace HI0 := aM (hi); (try clear hb hk hi)) | ((with_reducible refine gate_callee (f := 73) rfl ?_); refine goesL_ (some 19) rfl rfl Try.func73 (by kernel_rfl) rfl #[.pointer (some ⟨g, 0, none⟩), .int .i64 6] rfl qz4 ?_; (with_reducible refine (spec_l1Below.calls g s0_0 t408 t409 6 t410 t411 t412 w0 _ ?side1 ?side2 A10.out).mono ?_); (case side1 => exact qz3); (case side2 => exact qz1); rintro e w21 ⟨rfl, hi, hb, hk⟩; refine ⟨_, rfl, ?_⟩; replace HO406 := aM (Kd.R_mono (Kd.R_keep (IsS113.apart (show IsS113 w0 _ g s0_0 t408 t409 from qz3) (rr_ HO406.out) (by decide)) hk (fun _ h => h.2)) (fun _ h => h.1)); replace HK := aM (KeepBut.trans qz2 hk (.inl rfl)); replace HB := aM (hb); replace HI0 := aM (hi); (try clear hb hk hi)) | ((with_reducible refine gate_dst (N := 25) rfl ?_); refine Kd.R_lit (Kd.int .i64) _ 3 ?hg (N := 25) ?hd (xs := ([(-1), 0, 99] : List Int)) (inner := [.int .i64 (-1), .int .i64 0, .int .i64 99]) (ok := fun _ => True) (okp := fun _ => True) ?hr ?hp (fun _ hk => hk) trivial (Below.refl _ _) (Nat.le_refl _) (by simp) ?_; (case hd => rfl); (case hg => rfl); (case hr => exact qz10); (case hp => exact (Reps.one (show Kd.M (Kd.int .i64) _ _ _ (-1) [.int .i64 (-1)] from rfl) (Reps.one (show Kd.M (Kd.int .i64) _ _ _ 0 [.int .i64 0] from rfl) (Reps.one (show Kd.M (Kd.int .i64) _ _ _ 99 [.int .i64 99] from rfl) (Reps.none _ _))))); intro v414 w22 ho23 hb hg_ hnew_; clear hg_ hnew_; (first | rw [← Ny413.out] at ho23 | (simp only [Int.reduceToNat] at ho23; rw [← Ny413.out] at ho23)); replace HO406 := aM (Kd.R_below (rr_ HO406.out) hb); have HO415 := aM (Kd.R_lower ho23 (keep_size (w := w) (g := g) (row := none) qz2)); replace HK := aM (KeepBut.trans qz2 (KeepBut.of_below hb g none) (.inl rfl)); replace HB := bS_ hb; replace HI0 := aM (IsS113.below qz3 hb); clear hb ho23; obtain ⟨Ao24, co24, eo24⟩ := Kd.R_slice HO415.out; subst eo24) | ((with_reducible refine gate_callee (f := 81) rfl ?_); refine goesL_ (some 26) rfl rfl Try.func81 (by kernel_rfl) rfl #[.pointer (some ⟨g, 0, none⟩), .slice Ao24 y413.length co24] rfl qz4 ?_; (with_reducible refine (spec_l1Int.calls g s0_0 t411 t412 _ _ y413 t416 t417 t418 w0 _ ?side1 ?side2 ?side3 ?side4 ?side5 A12.out).mono ?_); (case side1 => exact qz3); (case side2 => exact qz1); (case side3 => repeat (first | exact (Kd.R_reads' HO415.out).2.2 | (with_reducible refine Kd.C_alloc ?_ _) | (with_reducible refine Kd.C_drewN ?_ _) | (with_reducible refine Kd.C_drew ?_))); (case side4 => exact (Kd.R_reads' HO415.out).2.1); (case side5 => exact far_slice (IsS113.own_ne HI0.out HO415.out (by decide))); rintro e w25 ⟨rfl, hi, hb, hk⟩; refine ⟨_, rfl, ?_⟩; replace HO406 := aM (Kd.R_mono (Kd.R_keep (IsS113.apart (show IsS113 w0 _ g s0_0 t411 t412 from qz3) (rr_ HO406.out) (by decide)) hk (fun _ h => h.2)) (fun _ h => h.1)); replace HO415 := aM (Kd.R_mono (Kd.R_keep (IsS113.apart (show IsS113 w0 _ g s0_0 t411 t412 from qz3) (rr_ HO415.out) (by decide)) hk (fun _ h => h.2)) (fun _ h => h.1)); replace HK := aM (KeepBut.trans qz2 hk (.inl rfl)); replace HB := aM (hb); replace HI0 := aM (hi); (try clear hb hk hi); have p15 : 0 ≤ (t407 : Int) := dt_; have q15 : (t407 : Int) < ((y404.length : Int) : Int) := dt_; obtain ⟨go15, co15, eo15, gb15, gl15, cl15, HG15⟩ := Kd.R_form HO406.out (by omega); (first | cases eo15 | (injection eo15 with ea_ en_ ec_; (first | subst ea_ | (injection ea_ with ea_; subst ea_)); subst ec_; clear en_)); have GB15 := aM gb15; have GG15 := aM HG15; clear gb15 gl15 HG15; obtain ⟨ce15, hcl15, hM15, hcc15, hfr15⟩ := Kd.R_elem HO406.out z37 (t407 : Int) p15 q15; obtain rfl := k37_openM hM15; have hx15_0 : w25.cell? ⟨go15, (t407 : Int).toNat * 5, none⟩ = some (.int .i64 ((rd_T37 y404 t407).f0)) := hcc15 0 _ rfl; have hx15_1 : w25.cell? ⟨go15, (t407 : Int).toNat * 5 + 1, none⟩ = some (.int .i64 ((rd_T37 y404 t407).f1)) := hcc15 1 _ rfl; have hx15_2 : w25.cell? ⟨go15, (t407 : Int).toNat * 5 + 2, none⟩ = some (.int .i64 ((rd_T37 y404 t407).f2)) := hcc15 2 _ rfl; have hx15_3 : w25.cell? ⟨go15, (t407 : Int).toNat * 5 + 3, none⟩ = some (.bool ((rd_T37 y404 t407).f3)) := hcc15 3 _ rfl; have hx15_4 : w25.cell? ⟨go15, (t407 : Int).toNat * 5 + 4, none⟩ = some (.int .i64 ((rd_T37 y404 t407).f4)) := hcc15 4 _ rfl; have hf15_0 : w25.frozen? ⟨go15, (t407 : Int).toNat * 5, none⟩ = false := hfr15 0; have hf15_1 : w25.frozen? ⟨go15, (t407 : Int).toNat * 5 + 1, none⟩ = false := hfr15 1; have hf15_2 : w25.frozen? ⟨go15, (t407 : Int).toNat * 5 + 2, none⟩ = false := hfr15 2; have hf15_3 : w25.frozen? ⟨go15, (t407 : Int).toNat * 5 + 3, none⟩ = false := hfr15 3; have hf15_4 : w25.frozen? ⟨go15, (t407 : Int).toNat * 5 + 4, none⟩ = false := hfr15 4; clear hcl15 hcc15 hfr15; (try clear hM15); replace p15 := eq_true p15; replace q15 := eq_true q15; have HX26 := aM (show Kd.R k37 37 w25 w.heap.size (fun _ => True) (.slice (some ⟨go15, 0, none⟩) y404.length co19) y404 from (rr_ HO406.out)); obtain ⟨ce26, hcl26, hM26, hcc26, hfr26⟩ := Kd.R_elem HX26.out z37 (t407 : Int) (dt_) (by have h_ : (t407 : Int) < ((y404.length : Int) : Int) := dt_; first | exact h_ | (have e_ := (Kd.R_reads' HO406.out).1; omega) | simpa using h_); obtain rfl := k37_openM hM26; have HP26 := Kd.R_seg HX26.out (t407 : Int) (dt_) (by have h_ : (t407 : Int) < ((y404.length : Int) : Int) := dt_; first | exact h_ | (have e_ := (Kd.R_reads' HO406.out).1; omega) | simpa using h_) (seg := [.int .i64 t416]) (j := 1) hcl26 hcc26 (show 2 ≤ 5 from by decide) (x' := (⟨(rd_T37 y404 t407).f0, t416, (rd_T37 y404 t407).f2, (rd_T37 y404 t407).f3, (rd_T37 y404 t407).f4⟩ : S37)) (k37_mkM _ _ _ (⟨(rd_T37 y404 t407).f0, t416, (rd_T37 y404 t407).f2, (rd_T37 y404 t407).f3, (rd_T37 y404 t407).f4⟩ : S37) ) (fun _ hk => hk); have hx26_1 := hcc26 1 _ rfl; (try simp only [show (k37).sz = 5 from rfl, Nat.mul_one, Nat.add_zero] at hx26_1); have hf26_1 := hfr26 1; (try simp only [show (k37).sz = 5 from rfl, Nat.mul_one, Nat.add_zero] at hf26_1); clear hcl26 hcc26 hfr26; (try clear hM26)) | ((with_reducible refine gate_store (t := 3) (p := 28) rfl ?_); refine store_event (t := 3) (p := 28) (v := ?vo_w27) (w1 := (w25.setCell ⟨go15, (t407 : Int).toNat * 5 + 1, none⟩ (.int .i64 t416))) ?hg ?ho ?hn ?hr ?_; (case ho => rfl); (case hg => rfl); (case hn => rfl); (case hr => exact qz10); intro w27 hw; have hg : w25.grownBy w27 (some go15) := (by rw [hw]; exact HP26.2); have hp_ : Kd.R k37 37 w27 w.heap.size (fun _ => True) (.slice (some ⟨go15, 0, none⟩) y404.length co19) y419 := (by rw [hw, Ny419.out]; exact HP26.1); clear HP26; replace HI0 := aM (IsS113.grown qz3 hg (IsS113.own_ne HI0.out HO406.out (by decide))); replace HO415 := aM (Kd.R_over' (v := (.slice (some ⟨go15, 0, none⟩) y404.length co19)) (rr_ HO415.out) (Kd.R_typed HO406.out) (by decide) hg); replace HB := aM ((by rw [hw]; exact below_set (HB.out) (Nat.le_trans HL.out GB15.out) : Below w0.heap.size w0 w27)); replace HK := aM (KeepBut.trans qz2 (KeepBut.of_grown hg g) (Kd.R_base2 HO406.out)); replace HO406 := aM (hp_); clear hg hw hp_))
 go_ret
 exact ⟨_, qzw, by (with_reducible repeat (first | apply Kd.R_alloc | apply Kd.R_drewN | apply Kd.R_drew)); exact HO406.out, qz3, qz1, qz2⟩
 }
 {
 exact an_ c14 H
 }
 }
 {
 exact an_ c13 H
 }
 }
 {
 rw [if_neg c11] at H
 have c11b0 := beq_eq_false_iff_ne.mpr c11
 have c11b1 := bne_iff_ne.mpr c11
 by_cases c28 : t410 = 1
 {
 rw [if_pos c28] at H
 have c28b0 := beq_iff_eq.mpr c28
 have c28b1 := bne_eq_false_iff_eq.mpr c28
 clear c28
 obtain ⟨y420, hy420⟩ : ∃ y_ : List Int, y_ = (([(-2), 0, 100] : List Int)) := ⟨_, rfl⟩
 replace H : ((spec_l1Int.f s0_0 t411 t412 y420).bind fun bt423 => (if 0 ≤ t407 then (if t407 < (y404.length : Int) then (some ((y404.set (t407 : Int).toNat (⟨(rd_T37 y404 t407).f0, (rd_T37 y404 t407).f1, bt423.1, (rd_T37 y404 t407).f3, (rd_T37 y404 t407).f4⟩ : S37)), bt423.2.1, bt423.2.2)) else (none)) else (none))) = some (r1, r2, r3) := by first | (rw [hy420]; with_reducible exact H) | (have H2_ := (Option.bind_some _ _).symm.trans H; rw [hy420]; with_reducible exact H2_) | (have H2_ := (Option.bind_some _ _).symm.trans H; with_reducible exact H2_) | with_reducible exact H | (rw [hy420]; exact H) | exact H
 have Ny420 := aM hy420
 clear hy420
 replace H := Option.bind_eq_some_iff.mp H
 obtain ⟨⟨t423, t424, t425⟩, A290, H⟩ := H
 replace H : (if 0 ≤ t407 then (if t407 < (y404.length : Int) then (some ((y404.set (t407 : Int).toNat (⟨(rd_T37 y404 t407).f0, (rd_T37 y404 t407).f1, t423, (rd_T37 y404 t407).f3, (rd_T37 y404 t407).f4⟩ : S37)), t424, t425)) else (none)) else (none)) = some (r1, r2, r3) := H
 have A29 := aM A290
 clear A290
 by_cases c30 : 0 ≤ t407
 {
 rw [if_pos c30] at H
 have c30b0 := decide_eq_true c30
 clear c30
 by_cases c31 : t407 < (y404.length : Int)
 {
 rw [if_pos c31] at H
 have c31b0 := decide_eq_true c31
 clear c31
 obtain ⟨y426, hy426⟩ : ∃ y_ : List (S37), y_ = (y404.set (t407 : Int).toNat (⟨(rd_T37 y404 t407).f0, (rd_T37 y404 t407).f1, t423, (rd_T37 y404 t407).f3, (rd_T37 y404 t407).f4⟩ : S37)) := ⟨_, rfl⟩
 replace H : (some (y426, t424, t425)) = some (r1, r2, r3) := by first | (rw [hy426]; with_reducible exact H) | (have H2_ := (Option.bind_some _ _).symm.trans H; rw [hy426]; with_reducible exact H2_) | (have H2_ := (Option.bind_some _ _).symm.trans H; with_reducible exact H2_) | with_reducible exact H | (rw [hy426]; exact H) | exact H
 have Ny426 := aM hy426
 clear hy426
 simp only [Option.some.injEq, Prod.mk.injEq] at H
 obtain ⟨rfl, rfl, rfl⟩ := H
 go_enter Try.func97, Try.ntmps97
 go_wp2_with (first | ((with_reducible refine gate_dst (N := 7) rfl ?_); refine Kd.R_lit k37 _ 37 ?hg (N := 7) ?hd (xs := ([] : List (S37))) (inner := []) (ok := fun _ => True) (okp := fun _ => True) ?hr ?hp (fun _ hk => hk) trivial (Below.refl _ _) (Nat.le_refl _) (by simp) ?_; (case hd => rfl); (case hg => rfl); (case hr => exact qz10); (case hp => exact qz30); intro v402 w33 ho34 hb hg_ hnew_; clear hg_ hnew_; (first | rw [← Ny401.out] at ho34 | (simp only [Int.reduceToNat] at ho34; rw [← Ny401.out] at ho34)); have HO403 := aM (Kd.R_lower ho34 (keep_size (w := w) (g := g) (row := none) qz2)); replace HK := aM (KeepBut.trans qz2 (KeepBut.of_below hb g none) (.inl rfl)); replace HB := bS_ hb; replace HI0 := aM (IsS113.below qz3 hb); clear hb ho34) | ((with_reducible refine gate_builtin (b := .append) (xs := #[.tmp 7, .tmp 8]) rfl ?_); at_builtin; refine Kd.R_append_rows k37 w.heap.size rfl (.tmp 7) (.tmp 8) 26 37 (.agg #[(.int .i64 0), (.int .i64 0), (.int .i64 0), (.bool false), (.int .i64 0)]) 40 rfl Try.underlying26 info37 rfl (by decide) (by omega) v402 y401 l1 _ _ _ (fun _ => True) (fun _ => False) rfl rfl ?aO ?aR (fun _ _ h => h) (fun _ h => h.elim) ?aF (Below.refl _ _) ?aS ?aL ?_; (case aR => exact Kd.C_foot_now HR1.out qz2); (case aF => exact qz21); (case aO => exact (rr_ HO403.out)); (case aS => exact (keep_size (w := w) (g := g) (row := none) qz2)); (case aL => have := LMc3.out; omega); intro v405 w35 ho hb hg hat; rw [← Ny404.out] at ho; replace HB := aM (below_weaken qz1 HL.out hb); replace HI0 := aM (IsS113.grown qz3 hg (IsS113.own_ne HI0.out HO403.out (by decide))); replace HK := aM (KeepBut.trans qz2 (KeepBut.of_grown hg g) (Kd.R_base2 HO403.out)); have HO406 := aM (ho); clear HO403; clear ho hb hg hat; obtain ⟨Ao36, co36, eo36⟩ := Kd.R_slice HO406.out; subst eo36) | ((with_reducible refine gate_callee (f := 73) rfl ?_); refine goesL_ (some 17) rfl rfl Try.func73 (by kernel_rfl) rfl #[.pointer (some ⟨g, 0, none⟩), .int .i64 (y404.length : Int)] rfl qz4 ?_; (with_reducible refine (spec_l1Below.calls g s0_0 s0_1 s0_2 (y404.length : Int) t407 t408 t409 w0 _ ?side1 ?side2 A9.out).mono ?_); (case side1 => exact qz3); (case side2 => exact qz1); rintro e w37 ⟨rfl, hi, hb, hk⟩; refine ⟨_, rfl, ?_⟩; replace HO406 := aM (Kd.R_mono (Kd.R_keep (IsS113.apart (show IsS113 w0 _ g s0_0 s0_1 s0_2 from qz3) (rr_ HO406.out) (by decide)) hk (fun _ h => h.2)) (fun _ h => h.1)); replace HK := aM (KeepBut.trans qz2 hk (.inl rfl)); replace HB := aM (hb); replace HI0 := aM (hi); (try clear hb hk hi)) | ((with_reducible refine gate_callee (f := 73) rfl ?_); refine goesL_ (some 19) rfl rfl Try.func73 (by kernel_rfl) rfl #[.pointer (some ⟨g, 0, none⟩), .int .i64 6] rfl qz4 ?_; (with_reducible refine (spec_l1Below.calls g s0_0 t408 t409 6 t410 t411 t412 w0 _ ?side1 ?side2 A10.out).mono ?_); (case side1 => exact qz3); (case side2 => exact qz1); rintro e w38 ⟨rfl, hi, hb, hk⟩; refine ⟨_, rfl, ?_⟩; replace HO406 := aM (Kd.R_mono (Kd.R_keep (IsS113.apart (show IsS113 w0 _ g s0_0 t408 t409 from qz3) (rr_ HO406.out) (by decide)) hk (fun _ h => h.2)) (fun _ h => h.1)); replace HK := aM (KeepBut.trans qz2 hk (.inl rfl)); replace HB := aM (hb); replace HI0 := aM (hi); (try clear hb hk hi)) | ((with_reducible refine gate_dst (N := 34) rfl ?_); refine Kd.R_lit (Kd.int .i64) _ 3 ?hg (N := 34) ?hd (xs := ([(-2), 0, 100] : List Int)) (inner := [.int .i64 (-2), .int .i64 0, .int .i64 100]) (ok := fun _ => True) (okp := fun _ => True) ?hr ?hp (fun _ hk => hk) trivial (Below.refl _ _) (Nat.le_refl _) (by simp) ?_; (case hd => rfl); (case hg => rfl); (case hr => exact qz10); (case hp => exact (Reps.one (show Kd.M (Kd.int .i64) _ _ _ (-2) [.int .i64 (-2)] from rfl) (Reps.one (show Kd.M (Kd.int .i64) _ _ _ 0 [.int .i64 0] from rfl) (Reps.one (show Kd.M (Kd.int .i64) _ _ _ 100 [.int .i64 100] from rfl) (Reps.none _ _))))); intro v421 w39 ho40 hb hg_ hnew_; clear hg_ hnew_; (first | rw [← Ny420.out] at ho40 | (simp only [Int.reduceToNat] at ho40; rw [← Ny420.out] at ho40)); replace HO406 := aM (Kd.R_below (rr_ HO406.out) hb); have HO422 := aM (Kd.R_lower ho40 (keep_size (w := w) (g := g) (row := none) qz2)); replace HK := aM (KeepBut.trans qz2 (KeepBut.of_below hb g none) (.inl rfl)); replace HB := bS_ hb; replace HI0 := aM (IsS113.below qz3 hb); clear hb ho40; obtain ⟨Ao41, co41, eo41⟩ := Kd.R_slice HO422.out; subst eo41) | ((with_reducible refine gate_callee (f := 81) rfl ?_); refine goesL_ (some 35) rfl rfl Try.func81 (by kernel_rfl) rfl #[.pointer (some ⟨g, 0, none⟩), .slice Ao41 y420.length co41] rfl qz4 ?_; (with_reducible refine (spec_l1Int.calls g s0_0 t411 t412 _ _ y420 t423 t424 t425 w0 _ ?side1 ?side2 ?side3 ?side4 ?side5 A29.out).mono ?_); (case side1 => exact qz3); (case side2 => exact qz1); (case side3 => repeat (first | exact (Kd.R_reads' HO422.out).2.2 | (with_reducible refine Kd.C_alloc ?_ _) | (with_reducible refine Kd.C_drewN ?_ _) | (with_reducible refine Kd.C_drew ?_))); (case side4 => exact (Kd.R_reads' HO422.out).2.1); (case side5 => exact far_slice (IsS113.own_ne HI0.out HO422.out (by decide))); rintro e w42 ⟨rfl, hi, hb, hk⟩; refine ⟨_, rfl, ?_⟩; replace HO406 := aM (Kd.R_mono (Kd.R_keep (IsS113.apart (show IsS113 w0 _ g s0_0 t411 t412 from qz3) (rr_ HO406.out) (by decide)) hk (fun _ h => h.2)) (fun _ h => h.1)); replace HO422 := aM (Kd.R_mono (Kd.R_keep (IsS113.apart (show IsS113 w0 _ g s0_0 t411 t412 from qz3) (rr_ HO422.out) (by decide)) hk (fun _ h => h.2)) (fun _ h => h.1)); replace HK := aM (KeepBut.trans qz2 hk (.inl rfl)); replace HB := aM (hb); replace HI0 := aM (hi); (try clear hb hk hi); have p32 : 0 ≤ (t407 : Int) := dt_; have q32 : (t407 : Int) < ((y404.length : Int) : Int) := dt_; obtain ⟨go32, co32, eo32, gb32, gl32, cl32, HG32⟩ := Kd.R_form HO406.out (by omega); (first | cases eo32 | (injection eo32 with ea_ en_ ec_; (first | subst ea_ | (injection ea_ with ea_; subst ea_)); subst ec_; clear en_)); have GB32 := aM gb32; have GG32 := aM HG32; clear gb32 gl32 HG32; obtain ⟨ce32, hcl32, hM32, hcc32, hfr32⟩ := Kd.R_elem HO406.out z37 (t407 : Int) p32 q32; obtain rfl := k37_openM hM32; have hx32_0 : w42.cell? ⟨go32, (t407 : Int).toNat * 5, none⟩ = some (.int .i64 ((rd_T37 y404 t407).f0)) := hcc32 0 _ rfl; have hx32_1 : w42.cell? ⟨go32, (t407 : Int).toNat * 5 + 1, none⟩ = some (.int .i64 ((rd_T37 y404 t407).f1)) := hcc32 1 _ rfl; have hx32_2 : w42.cell? ⟨go32, (t407 : Int).toNat * 5 + 2, none⟩ = some (.int .i64 ((rd_T37 y404 t407).f2)) := hcc32 2 _ rfl; have hx32_3 : w42.cell? ⟨go32, (t407 : Int).toNat * 5 + 3, none⟩ = some (.bool ((rd_T37 y404 t407).f3)) := hcc32 3 _ rfl; have hx32_4 : w42.cell? ⟨go32, (t407 : Int).toNat * 5 + 4, none⟩ = some (.int .i64 ((rd_T37 y404 t407).f4)) := hcc32 4 _ rfl; have hf32_0 : w42.frozen? ⟨go32, (t407 : Int).toNat * 5, none⟩ = false := hfr32 0; have hf32_1 : w42.frozen? ⟨go32, (t407 : Int).toNat * 5 + 1, none⟩ = false := hfr32 1; have hf32_2 : w42.frozen? ⟨go32, (t407 : Int).toNat * 5 + 2, none⟩ = false := hfr32 2; have hf32_3 : w42.frozen? ⟨go32, (t407 : Int).toNat * 5 + 3, none⟩ = false := hfr32 3; have hf32_4 : w42.frozen? ⟨go32, (t407 : Int).toNat * 5 + 4, none⟩ = false := hfr32 4; clear hcl32 hcc32 hfr32; (try clear hM32); replace p32 := eq_true p32; replace q32 := eq_true q32; have HX43 := aM (show Kd.R k37 37 w42 w.heap.size (fun _ => True) (.slice (some ⟨go32, 0, none⟩) y404.length co36) y404 from (rr_ HO406.out)); obtain ⟨ce43, hcl43, hM43, hcc43, hfr43⟩ := Kd.R_elem HX43.out z37 (t407 : Int) (dt_) (by have h_ : (t407 : Int) < ((y404.length : Int) : Int) := dt_; first | exact h_ | (have e_ := (Kd.R_reads' HO406.out).1; omega) | simpa using h_); obtain rfl := k37_openM hM43; have HP43 := Kd.R_seg HX43.out (t407 : Int) (dt_) (by have h_ : (t407 : Int) < ((y404.length : Int) : Int) := dt_; first | exact h_ | (have e_ := (Kd.R_reads' HO406.out).1; omega) | simpa using h_) (seg := [.int .i64 t423]) (j := 2) hcl43 hcc43 (show 3 ≤ 5 from by decide) (x' := (⟨(rd_T37 y404 t407).f0, (rd_T37 y404 t407).f1, t423, (rd_T37 y404 t407).f3, (rd_T37 y404 t407).f4⟩ : S37)) (k37_mkM _ _ _ (⟨(rd_T37 y404 t407).f0, (rd_T37 y404 t407).f1, t423, (rd_T37 y404 t407).f3, (rd_T37 y404 t407).f4⟩ : S37) ) (fun _ hk => hk); have hx43_2 := hcc43 2 _ rfl; (try simp only [show (k37).sz = 5 from rfl, Nat.mul_one, Nat.add_zero] at hx43_2); have hf43_2 := hfr43 2; (try simp only [show (k37).sz = 5 from rfl, Nat.mul_one, Nat.add_zero] at hf43_2); clear hcl43 hcc43 hfr43; (try clear hM43)) | ((with_reducible refine gate_store (t := 3) (p := 37) rfl ?_); refine store_event (t := 3) (p := 37) (v := ?vo_w44) (w1 := (w42.setCell ⟨go32, (t407 : Int).toNat * 5 + 2, none⟩ (.int .i64 t423))) ?hg ?ho ?hn ?hr ?_; (case ho => rfl); (case hg => rfl); (case hn => rfl); (case hr => exact qz10); intro w44 hw; have hg : w42.grownBy w44 (some go32) := (by rw [hw]; exact HP43.2); have hp_ : Kd.R k37 37 w44 w.heap.size (fun _ => True) (.slice (some ⟨go32, 0, none⟩) y404.length co36) y426 := (by rw [hw, Ny426.out]; exact HP43.1); clear HP43; replace HI0 := aM (IsS113.grown qz3 hg (IsS113.own_ne HI0.out HO406.out (by decide))); replace HO422 := aM (Kd.R_over' (v := (.slice (some ⟨go32, 0, none⟩) y404.length co36)) (rr_ HO422.out) (Kd.R_typed HO406.out) (by decide) hg); replace HB := aM ((by rw [hw]; exact below_set (HB.out) (Nat.le_trans HL.out GB32.out) : Below w0.heap.size w0 w44)); replace HK := aM (KeepBut.trans qz2 (KeepBut.of_grown hg g) (Kd.R_base2 HO406.out)); replace HO406 := aM (hp_); clear hg hw hp_))
 go_ret
 exact ⟨_, qzw, by (with_reducible repeat (first | apply Kd.R_alloc | apply Kd.R_drewN | apply Kd.R_drew)); exact HO406.out, qz3, qz1, qz2⟩
 }
 {
 exact an_ c31 H
 }
 }
 {
 exact an_ c30 H
 }
 }
 {
 rw [if_neg c28] at H
 have c28b0 := beq_eq_false_iff_ne.mpr c28
 have c28b1 := bne_iff_ne.mpr c28
 by_cases c45 : t410 = 2
 {
 rw [if_pos c45] at H
 have c45b0 := beq_iff_eq.mpr c45
 have c45b1 := bne_eq_false_iff_eq.mpr c45
 clear c45
 obtain ⟨y427, hy427⟩ : ∃ y_ : List Int, y_ = (([0, 1, 100] : List Int)) := ⟨_, rfl⟩
 replace H : ((spec_l1Int.f s0_0 t411 t412 y427).bind fun bt430 => (if 0 ≤ t407 then (if t407 < (y404.length : Int) then (some ((y404.set (t407 : Int).toNat (⟨bt430.1, (rd_T37 y404 t407).f1, (rd_T37 y404 t407).f2, (rd_T37 y404 t407).f3, (rd_T37 y404 t407).f4⟩ : S37)), bt430.2.1, bt430.2.2)) else (none)) else (none))) = some (r1, r2, r3) := by first | (rw [hy427]; with_reducible exact H) | (have H2_ := (Option.bind_some _ _).symm.trans H; rw [hy427]; with_reducible exact H2_) | (have H2_ := (Option.bind_some _ _).symm.trans H; with_reducible exact H2_) | with_reducible exact H | (rw [hy427]; exact H) | exact H
 have Ny427 := aM hy427
 clear hy427
 replace H := Option.bind_eq_some_iff.mp H
 obtain ⟨⟨t430, t431, t432⟩, A460, H⟩ := H
 replace H : (if 0 ≤ t407 then (if t407 < (y404.length : Int) then (some ((y404.set (t407 : Int).toNat (⟨t430, (rd_T37 y404 t407).f1, (rd_T37 y404 t407).f2, (rd_T37 y404 t407).f3, (rd_T37 y404 t407).f4⟩ : S37)), t431, t432)) else (none)) else (none)) = some (r1, r2, r3) := H
 have A46 := aM A460
 clear A460
 by_cases c47 : 0 ≤ t407
 {
 rw [if_pos c47] at H
 have c47b0 := decide_eq_true c47
 clear c47
 by_cases c48 : t407 < (y404.length : Int)
 {
 rw [if_pos c48] at H
 have c48b0 := decide_eq_true c48
 clear c48
 obtain ⟨y433, hy433⟩ : ∃ y_ : List (S37), y_ = (y404.set (t407 : Int).toNat (⟨t430, (rd_T37 y404 t407).f1, (rd_T37 y404 t407).f2, (rd_T37 y404 t407).f3, (rd_T37 y404 t407).f4⟩ : S37)) := ⟨_, rfl⟩
 replace H : (some (y433, t431, t432)) = some (r1, r2, r3) := by first | (rw [hy433]; with_reducible exact H) | (have H2_ := (Option.bind_some _ _).symm.trans H; rw [hy433]; with_reducible exact H2_) | (have H2_ := (Option.bind_some _ _).symm.trans H; with_reducible exact H2_) | with_reducible exact H | (rw [hy433]; exact H) | exact H
 have Ny433 := aM hy433
 clear hy433
 simp only [Option.some.injEq, Prod.mk.injEq] at H
 obtain ⟨rfl, rfl, rfl⟩ := H
 go_enter Try.func97, Try.ntmps97
 go_wp2_with (first | ((with_reducible refine gate_dst (N := 7) rfl ?_); refine Kd.R_lit k37 _ 37 ?hg (N := 7) ?hd (xs := ([] : List (S37))) (inner := []) (ok := fun _ => True) (okp := fun _ => True) ?hr ?hp (fun _ hk => hk) trivial (Below.refl _ _) (Nat.le_refl _) (by simp) ?_; (case hd => rfl); (case hg => rfl); (case hr => exact qz10); (case hp => exact qz30); intro v402 w50 ho51 hb hg_ hnew_; clear hg_ hnew_; (first | rw [← Ny401.out] at ho51 | (simp only [Int.reduceToNat] at ho51; rw [← Ny401.out] at ho51)); have HO403 := aM (Kd.R_lower ho51 (keep_size (w := w) (g := g) (row := none) qz2)); replace HK := aM (KeepBut.trans qz2 (KeepBut.of_below hb g none) (.inl rfl)); replace HB := bS_ hb; replace HI0 := aM (IsS113.below qz3 hb); clear hb ho51) | ((with_reducible refine gate_builtin (b := .append) (xs := #[.tmp 7, .tmp 8]) rfl ?_); at_builtin; refine Kd.R_append_rows k37 w.heap.size rfl (.tmp 7) (.tmp 8) 26 37 (.agg #[(.int .i64 0), (.int .i64 0), (.int .i64 0), (.bool false), (.int .i64 0)]) 40 rfl Try.underlying26 info37 rfl (by decide) (by omega) v402 y401 l1 _ _ _ (fun _ => True) (fun _ => False) rfl rfl ?aO ?aR (fun _ _ h => h) (fun _ h => h.elim) ?aF (Below.refl _ _) ?aS ?aL ?_; (case aR => exact Kd.C_foot_now HR1.out qz2); (case aF => exact qz21); (case aO => exact (rr_ HO403.out)); (case aS => exact (keep_size (w := w) (g := g) (row := none) qz2)); (case aL => have := LMc3.out; omega); intro v405 w52 ho hb hg hat; rw [← Ny404.out] at ho; replace HB := aM (below_weaken qz1 HL.out hb); replace HI0 := aM (IsS113.grown qz3 hg (IsS113.own_ne HI0.out HO403.out (by decide))); replace HK := aM (KeepBut.trans qz2 (KeepBut.of_grown hg g) (Kd.R_base2 HO403.out)); have HO406 := aM (ho); clear HO403; clear ho hb hg hat; obtain ⟨Ao53, co53, eo53⟩ := Kd.R_slice HO406.out; subst eo53) | ((with_reducible refine gate_callee (f := 73) rfl ?_); refine goesL_ (some 17) rfl rfl Try.func73 (by kernel_rfl) rfl #[.pointer (some ⟨g, 0, none⟩), .int .i64 (y404.length : Int)] rfl qz4 ?_; (with_reducible refine (spec_l1Below.calls g s0_0 s0_1 s0_2 (y404.length : Int) t407 t408 t409 w0 _ ?side1 ?side2 A9.out).mono ?_); (case side1 => exact qz3); (case side2 => exact qz1); rintro e w54 ⟨rfl, hi, hb, hk⟩; refine ⟨_, rfl, ?_⟩; replace HO406 := aM (Kd.R_mono (Kd.R_keep (IsS113.apart (show IsS113 w0 _ g s0_0 s0_1 s0_2 from qz3) (rr_ HO406.out) (by decide)) hk (fun _ h => h.2)) (fun _ h => h.1)); replace HK := aM (KeepBut.trans qz2 hk (.inl rfl)); replace HB := aM (hb); replace HI0 := aM (hi); (try clear hb hk hi)) | ((with_reducible refine gate_callee (f := 73) rfl ?_); refine goesL_ (some 19) rfl rfl Try.func73 (by kernel_rfl) rfl #[.pointer (some ⟨g, 0, none⟩), .int .i64 6] rfl qz4 ?_; (with_reducible refine (spec_l1Below.calls g s0_0 t408 t409 6 t410 t411 t412 w0 _ ?side1 ?side2 A10.out).mono ?_); (case side1 => exact qz3); (case side2 => exact qz1); rintro e w55 ⟨rfl, hi, hb, hk⟩; refine ⟨_, rfl, ?_⟩; replace HO406 := aM (Kd.R_mono (Kd.R_keep (IsS113.apart (show IsS113 w0 _ g s0_0 t408 t409 from qz3) (rr_ HO406.out) (by decide)) hk (fun _ h => h.2)) (fun _ h => h.1)); replace HK := aM (KeepBut.trans qz2 hk (.inl rfl)); replace HB := aM (hb); replace HI0 := aM (hi); (try clear hb hk hi)) | ((with_reducible refine gate_dst (N := 43) rfl ?_); refine Kd.R_lit (Kd.int .i64) _ 3 ?hg (N := 43) ?hd (xs := ([0, 1, 100] : List Int)) (inner := [.int .i64 0, .int .i64 1, .int .i64 100]) (ok := fun _ => True) (okp := fun _ => True) ?hr ?hp (fun _ hk => hk) trivial (Below.refl _ _) (Nat.le_refl _) (by simp) ?_; (case hd => rfl); (case hg => rfl); (case hr => exact qz10); (case hp => exact (Reps.one (show Kd.M (Kd.int .i64) _ _ _ 0 [.int .i64 0] from rfl) (Reps.one (show Kd.M (Kd.int .i64) _ _ _ 1 [.int .i64 1] from rfl) (Reps.one (show Kd.M (Kd.int .i64) _ _ _ 100 [.int .i64 100] from rfl) (Reps.none _ _))))); intro v428 w56 ho57 hb hg_ hnew_; clear hg_ hnew_; (first | rw [← Ny427.out] at ho57 | (simp only [Int.reduceToNat] at ho57; rw [← Ny427.out] at ho57)); replace HO406 := aM (Kd.R_below (rr_ HO406.out) hb); have HO429 := aM (Kd.R_lower ho57 (keep_size (w := w) (g := g) (row := none) qz2)); replace HK := aM (KeepBut.trans qz2 (KeepBut.of_below hb g none) (.inl rfl)); replace HB := bS_ hb; replace HI0 := aM (IsS113.below qz3 hb); clear hb ho57; obtain ⟨Ao58, co58, eo58⟩ := Kd.R_slice HO429.out; subst eo58) | ((with_reducible refine gate_callee (f := 81) rfl ?_); refine goesL_ (some 44) rfl rfl Try.func81 (by kernel_rfl) rfl #[.pointer (some ⟨g, 0, none⟩), .slice Ao58 y427.length co58] rfl qz4 ?_; (with_reducible refine (spec_l1Int.calls g s0_0 t411 t412 _ _ y427 t430 t431 t432 w0 _ ?side1 ?side2 ?side3 ?side4 ?side5 A46.out).mono ?_); (case side1 => exact qz3); (case side2 => exact qz1); (case side3 => repeat (first | exact (Kd.R_reads' HO429.out).2.2 | (with_reducible refine Kd.C_alloc ?_ _) | (with_reducible refine Kd.C_drewN ?_ _) | (with_reducible refine Kd.C_drew ?_))); (case side4 => exact (Kd.R_reads' HO429.out).2.1); (case side5 => exact far_slice (IsS113.own_ne HI0.out HO429.out (by decide))); rintro e w59 ⟨rfl, hi, hb, hk⟩; refine ⟨_, rfl, ?_⟩; replace HO406 := aM (Kd.R_mono (Kd.R_keep (IsS113.apart (show IsS113 w0 _ g s0_0 t411 t412 from qz3) (rr_ HO406.out) (by decide)) hk (fun _ h => h.2)) (fun _ h => h.1)); replace HO429 := aM (Kd.R_mono (Kd.R_keep (IsS113.apart (show IsS113 w0 _ g s0_0 t411 t412 from qz3) (rr_ HO429.out) (by decide)) hk (fun _ h => h.2)) (fun _ h => h.1)); replace HK := aM (KeepBut.trans qz2 hk (.inl rfl)); replace HB := aM (hb); replace HI0 := aM (hi); (try clear hb hk hi); have p49 : 0 ≤ (t407 : Int) := dt_; have q49 : (t407 : Int) < ((y404.length : Int) : Int) := dt_; obtain ⟨go49, co49, eo49, gb49, gl49, cl49, HG49⟩ := Kd.R_form HO406.out (by omega); (first | cases eo49 | (injection eo49 with ea_ en_ ec_; (first | subst ea_ | (injection ea_ with ea_; subst ea_)); subst ec_; clear en_)); have GB49 := aM gb49; have GG49 := aM HG49; clear gb49 gl49 HG49; obtain ⟨ce49, hcl49, hM49, hcc49, hfr49⟩ := Kd.R_elem HO406.out z37 (t407 : Int) p49 q49; obtain rfl := k37_openM hM49; have hx49_0 : w59.cell? ⟨go49, (t407 : Int).toNat * 5, none⟩ = some (.int .i64 ((rd_T37 y404 t407).f0)) := hcc49 0 _ rfl; have hx49_1 : w59.cell? ⟨go49, (t407 : Int).toNat * 5 + 1, none⟩ = some (.int .i64 ((rd_T37 y404 t407).f1)) := hcc49 1 _ rfl; have hx49_2 : w59.cell? ⟨go49, (t407 : Int).toNat * 5 + 2, none⟩ = some (.int .i64 ((rd_T37 y404 t407).f2)) := hcc49 2 _ rfl; have hx49_3 : w59.cell? ⟨go49, (t407 : Int).toNat * 5 + 3, none⟩ = some (.bool ((rd_T37 y404 t407).f3)) := hcc49 3 _ rfl; have hx49_4 : w59.cell? ⟨go49, (t407 : Int).toNat * 5 + 4, none⟩ = some (.int .i64 ((rd_T37 y404 t407).f4)) := hcc49 4 _ rfl; have hf49_0 : w59.frozen? ⟨go49, (t407 : Int).toNat * 5, none⟩ = false := hfr49 0; have hf49_1 : w59.frozen? ⟨go49, (t407 : Int).toNat * 5 + 1, none⟩ = false := hfr49 1; have hf49_2 : w59.frozen? ⟨go49, (t407 : Int).toNat * 5 + 2, none⟩ = false := hfr49 2; have hf49_3 : w59.frozen? ⟨go49, (t407 : Int).toNat * 5 + 3, none⟩ = false := hfr49 3; have hf49_4 : w59.frozen? ⟨go49, (t407 : Int).toNat * 5 + 4, none⟩ = false := hfr49 4; clear hcl49 hcc49 hfr49; (try clear hM49); replace p49 := eq_true p49; replace q49 := eq_true q49; have HX60 := aM (show Kd.R k37 37 w59 w.heap.size (fun _ => True) (.slice (some ⟨go49, 0, none⟩) y404.length co53) y404 from (rr_ HO406.out)); obtain ⟨ce60, hcl60, hM60, hcc60, hfr60⟩ := Kd.R_elem HX60.out z37 (t407 : Int) (dt_) (by have h_ : (t407 : Int) < ((y404.length : Int) : Int) := dt_; first | exact h_ | (have e_ := (Kd.R_reads' HO406.out).1; omega) | simpa using h_); obtain rfl := k37_openM hM60; have HP60 := Kd.R_seg HX60.out (t407 : Int) (dt_) (by have h_ : (t407 : Int) < ((y404.length : Int) : Int) := dt_; first | exact h_ | (have e_ := (Kd.R_reads' HO406.out).1; omega) | simpa using h_) (seg := [.int .i64 t430]) (j := 0) hcl60 hcc60 (show 1 ≤ 5 from by decide) (x' := (⟨t430, (rd_T37 y404 t407).f1, (rd_T37 y404 t407).f2, (rd_T37 y404 t407).f3, (rd_T37 y404 t407).f4⟩ : S37)) (k37_mkM _ _ _ (⟨t430, (rd_T37 y404 t407).f1, (rd_T37 y404 t407).f2, (rd_T37 y404 t407).f3, (rd_T37 y404 t407).f4⟩ : S37) ) (fun _ hk => hk); have hx60_0 := hcc60 0 _ rfl; (try simp only [show (k37).sz = 5 from rfl, Nat.mul_one, Nat.add_zero] at hx60_0); have hf60_0 := hfr60 0; (try simp only [show (k37).sz = 5 from rfl, Nat.mul_one, Nat.add_zero] at hf60_0); clear hcl60 hcc60 hfr60; (try clear hM60)) | ((with_reducible refine gate_store (t := 3) (p := 46) rfl ?_); refine store_event (t := 3) (p := 46) (v := ?vo_w61) (w1 := (w59.setCell ⟨go49, (t407 : Int).toNat * 5, none⟩ (.int .i64 t430))) ?hg ?ho ?hn ?hr ?_; (case ho => rfl); (case hg => rfl); (case hn => rfl); (case hr => exact qz10); intro w61 hw; have hg : w59.grownBy w61 (some go49) := (by rw [hw]; exact HP60.2); have hp_ : Kd.R k37 37 w61 w.heap.size (fun _ => True) (.slice (some ⟨go49, 0, none⟩) y404.length co53) y433 := (by rw [hw, Ny433.out]; exact HP60.1); clear HP60; replace HI0 := aM (IsS113.grown qz3 hg (IsS113.own_ne HI0.out HO406.out (by decide))); replace HO429 := aM (Kd.R_over' (v := (.slice (some ⟨go49, 0, none⟩) y404.length co53)) (rr_ HO429.out) (Kd.R_typed HO406.out) (by decide) hg); replace HB := aM ((by rw [hw]; exact below_set (HB.out) (Nat.le_trans HL.out GB49.out) : Below w0.heap.size w0 w61)); replace HK := aM (KeepBut.trans qz2 (KeepBut.of_grown hg g) (Kd.R_base2 HO406.out)); replace HO406 := aM (hp_); clear hg hw hp_))
 go_ret
 exact ⟨_, qzw, by (with_reducible repeat (first | apply Kd.R_alloc | apply Kd.R_drewN | apply Kd.R_drew)); exact HO406.out, qz3, qz1, qz2⟩
 }
 {
 exact an_ c48 H
 }
 }
 {
 exact an_ c47 H
 }
 }
 {
 rw [if_neg c45] at H
 have c45b0 := beq_eq_false_iff_ne.mpr c45
 have c45b1 := bne_iff_ne.mpr c45
 by_cases c62 : t410 = 3
 {
 rw [if_pos c62] at H
 have c62b0 := beq_iff_eq.mpr c62
 have c62b1 := bne_eq_false_iff_eq.mpr c62
 clear c62
 obtain ⟨y434, hy434⟩ : ∃ y_ : List Int, y_ = (([(-1), 1000000, 1000001] : List Int)) := ⟨_, rfl⟩
 replace H : ((spec_l1Int.f s0_0 t411 t412 y434).bind fun bt437 => (if 0 ≤ t407 then (if t407 < (y404.length : Int) then (some ((y404.set (t407 : Int).toNat (⟨(rd_T37 y404 t407).f0, (rd_T37 y404 t407).f1, (rd_T37 y404 t407).f2, (rd_T37 y404 t407).f3, bt437.1⟩ : S37)), bt437.2.1, bt437.2.2)) else (none)) else (none))) = some (r1, r2, r3) := by first | (rw [hy434]; with_reducible exact H) | (have H2_ := (Option.bind_some _ _).symm.trans H; rw [hy434]; with_reducible exact H2_) | (have H2_ := (Option.bind_some _ _).symm.trans H; with_reducible exact H2_) | with_reducible exact H | (rw [hy434]; exact H) | exact H
 have Ny434 := aM hy434
 clear hy434
 replace H := Option.bind_eq_some_iff.mp H
 obtain ⟨⟨t437, t438, t439⟩, A630, H⟩ := H
 replace H : (if 0 ≤ t407 then (if t407 < (y404.length : Int) then (some ((y404.set (t407 : Int).toNat (⟨(rd_T37 y404 t407).f0, (rd_T37 y404 t407).f1, (rd_T37 y404 t407).f2, (rd_T37 y404 t407).f3, t437⟩ : S37)), t438, t439)) else (none)) else (none)) = some (r1, r2, r3) := H
 have A63 := aM A630
 clear A630
 by_cases c64 : 0 ≤ t407
 {
 rw [if_pos c64] at H
 have c64b0 := decide_eq_true c64
 clear c64
 by_cases c65 : t407 < (y404.length : Int)
 {
 rw [if_pos c65] at H
 have c65b0 := decide_eq_true c65
 clear c65
 obtain ⟨y440, hy440⟩ : ∃ y_ : List (S37), y_ = (y404.set (t407 : Int).toNat (⟨(rd_T37 y404 t407).f0, (rd_T37 y404 t407).f1, (rd_T37 y404 t407).f2, (rd_T37 y404 t407).f3, t437⟩ : S37)) := ⟨_, rfl⟩
 replace H : (some (y440, t438, t439)) = some (r1, r2, r3) := by first | (rw [hy440]; with_reducible exact H) | (have H2_ := (Option.bind_some _ _).symm.trans H; rw [hy440]; with_reducible exact H2_) | (have H2_ := (Option.bind_some _ _).symm.trans H; with_reducible exact H2_) | with_reducible exact H | (rw [hy440]; exact H) | exact H
 have Ny440 := aM hy440
 clear hy440
 simp only [Option.some.injEq, Prod.mk.injEq] at H
 obtain ⟨rfl, rfl, rfl⟩ := H
 go_enter Try.func97, Try.ntmps97
 go_wp2_with (first | ((with_reducible refine gate_dst (N := 7) rfl ?_); refine Kd.R_lit k37 _ 37 ?hg (N := 7) ?hd (xs := ([] : List (S37))) (inner := []) (ok := fun _ => True) (okp := fun _ => True) ?hr ?hp (fun _ hk => hk) trivial (Below.refl _ _) (Nat.le_refl _) (by simp) ?_; (case hd => rfl); (case hg => rfl); (case hr => exact qz10); (case hp => exact qz30); intro v402 w67 ho68 hb hg_ hnew_; clear hg_ hnew_; (first | rw [← Ny401.out] at ho68 | (simp only [Int.reduceToNat] at ho68; rw [← Ny401.out] at ho68)); have HO403 := aM (Kd.R_lower ho68 (keep_size (w := w) (g := g) (row := none) qz2)); replace HK := aM (KeepBut.trans qz2 (KeepBut.of_below hb g none) (.inl rfl)); replace HB := bS_ hb; replace HI0 := aM (IsS113.below qz3 hb); clear hb ho68) | ((with_reducible refine gate_builtin (b := .append) (xs := #[.tmp 7, .tmp 8]) rfl ?_); at_builtin; refine Kd.R_append_rows k37 w.heap.size rfl (.tmp 7) (.tmp 8) 26 37 (.agg #[(.int .i64 0), (.int .i64 0), (.int .i64 0), (.bool false), (.int .i64 0)]) 40 rfl Try.underlying26 info37 rfl (by decide) (by omega) v402 y401 l1 _ _ _ (fun _ => True) (fun _ => False) rfl rfl ?aO ?aR (fun _ _ h => h) (fun _ h => h.elim) ?aF (Below.refl _ _) ?aS ?aL ?_; (case aR => exact Kd.C_foot_now HR1.out qz2); (case aF => exact qz21); (case aO => exact (rr_ HO403.out)); (case aS => exact (keep_size (w := w) (g := g) (row := none) qz2)); (case aL => have := LMc3.out; omega); intro v405 w69 ho hb hg hat; rw [← Ny404.out] at ho; replace HB := aM (below_weaken qz1 HL.out hb); replace HI0 := aM (IsS113.grown qz3 hg (IsS113.own_ne HI0.out HO403.out (by decide))); replace HK := aM (KeepBut.trans qz2 (KeepBut.of_grown hg g) (Kd.R_base2 HO403.out)); have HO406 := aM (ho); clear HO403; clear ho hb hg hat; obtain ⟨Ao70, co70, eo70⟩ := Kd.R_slice HO406.out; subst eo70) | ((with_reducible refine gate_callee (f := 73) rfl ?_); refine goesL_ (some 17) rfl rfl Try.func73 (by kernel_rfl) rfl #[.pointer (some ⟨g, 0, none⟩), .int .i64 (y404.length : Int)] rfl qz4 ?_; (with_reducible refine (spec_l1Below.calls g s0_0 s0_1 s0_2 (y404.length : Int) t407 t408 t409 w0 _ ?side1 ?side2 A9.out).mono ?_); (case side1 => exact qz3); (case side2 => exact qz1); rintro e w71 ⟨rfl, hi, hb, hk⟩; refine ⟨_, rfl, ?_⟩; replace HO406 := aM (Kd.R_mono (Kd.R_keep (IsS113.apart (show IsS113 w0 _ g s0_0 s0_1 s0_2 from qz3) (rr_ HO406.out) (by decide)) hk (fun _ h => h.2)) (fun _ h => h.1)); replace HK := aM (KeepBut.trans qz2 hk (.inl rfl)); replace HB := aM (hb); replace HI0 := aM (hi); (try clear hb hk hi)) | ((with_reducible refine gate_callee (f := 73) rfl ?_); refine goesL_ (some 19) rfl rfl Try.func73 (by kernel_rfl) rfl #[.pointer (some ⟨g, 0, none⟩), .int .i64 6] rfl qz4 ?_; (with_reducible refine (spec_l1Below.calls g s0_0 t408 t409 6 t410 t411 t412 w0 _ ?side1 ?side2 A10.out).mono ?_); (case side1 => exact qz3); (case side2 => exact qz1); rintro e w72 ⟨rfl, hi, hb, hk⟩; refine ⟨_, rfl, ?_⟩; replace HO406 := aM (Kd.R_mono (Kd.R_keep (IsS113.apart (show IsS113 w0 _ g s0_0 t408 t409 from qz3) (rr_ HO406.out) (by decide)) hk (fun _ h => h.2)) (fun _ h => h.1)); replace HK := aM (KeepBut.trans qz2 hk (.inl rfl)); replace HB := aM (hb); replace HI0 := aM (hi); (try clear hb hk hi)) | ((with_reducible refine gate_dst (N := 52) rfl ?_); refine Kd.R_lit (Kd.int .i64) _ 3 ?hg (N := 52) ?hd (xs := ([(-1), 1000000, 1000001] : List Int)) (inner := [.int .i64 (-1), .int .i64 1000000, .int .i64 1000001]) (ok := fun _ => True) (okp := fun _ => True) ?hr ?hp (fun _ hk => hk) trivial (Below.refl _ _) (Nat.le_refl _) (by simp) ?_; (case hd => rfl); (case hg => rfl); (case hr => exact qz10); (case hp => exact (Reps.one (show Kd.M (Kd.int .i64) _ _ _ (-1) [.int .i64 (-1)] from rfl) (Reps.one (show Kd.M (Kd.int .i64) _ _ _ 1000000 [.int .i64 1000000] from rfl) (Reps.one (show Kd.M (Kd.int .i64) _ _ _ 1000001 [.int .i64 1000001] from rfl) (Reps.none _ _))))); intro v435 w73 ho74 hb hg_ hnew_; clear hg_ hnew_; (first | rw [← Ny434.out] at ho74 | (simp only [Int.reduceToNat] at ho74; rw [← Ny434.out] at ho74)); replace HO406 := aM (Kd.R_below (rr_ HO406.out) hb); have HO436 := aM (Kd.R_lower ho74 (keep_size (w := w) (g := g) (row := none) qz2)); replace HK := aM (KeepBut.trans qz2 (KeepBut.of_below hb g none) (.inl rfl)); replace HB := bS_ hb; replace HI0 := aM (IsS113.below qz3 hb); clear hb ho74; obtain ⟨Ao75, co75, eo75⟩ := Kd.R_slice HO436.out; subst eo75) | ((with_reducible refine gate_callee (f := 81) rfl ?_); refine goesL_ (some 53) rfl rfl Try.func81 (by kernel_rfl) rfl #[.pointer (some ⟨g, 0, none⟩), .slice Ao75 y434.length co75] rfl qz4 ?_; (with_reducible refine (spec_l1Int.calls g s0_0 t411 t412 _ _ y434 t437 t438 t439 w0 _ ?side1 ?side2 ?side3 ?side4 ?side5 A63.out).mono ?_); (case side1 => exact qz3); (case side2 => exact qz1); (case side3 => repeat (first | exact (Kd.R_reads' HO436.out).2.2 | (with_reducible refine Kd.C_alloc ?_ _) | (with_reducible refine Kd.C_drewN ?_ _) | (with_reducible refine Kd.C_drew ?_))); (case side4 => exact (Kd.R_reads' HO436.out).2.1); (case side5 => exact far_slice (IsS113.own_ne HI0.out HO436.out (by decide))); rintro e w76 ⟨rfl, hi, hb, hk⟩; refine ⟨_, rfl, ?_⟩; replace HO406 := aM (Kd.R_mono (Kd.R_keep (IsS113.apart (show IsS113 w0 _ g s0_0 t411 t412 from qz3) (rr_ HO406.out) (by decide)) hk (fun _ h => h.2)) (fun _ h => h.1)); replace HO436 := aM (Kd.R_mono (Kd.R_keep (IsS113.apart (show IsS113 w0 _ g s0_0 t411 t412 from qz3) (rr_ HO436.out) (by decide)) hk (fun _ h => h.2)) (fun _ h => h.1)); replace HK := aM (KeepBut.trans qz2 hk (.inl rfl)); replace HB := aM (hb); replace HI0 := aM (hi); (try clear hb hk hi); have p66 : 0 ≤ (t407 : Int) := dt_; have q66 : (t407 : Int) < ((y404.length : Int) : Int) := dt_; obtain ⟨go66, co66, eo66, gb66, gl66, cl66, HG66⟩ := Kd.R_form HO406.out (by omega); (first | cases eo66 | (injection eo66 with ea_ en_ ec_; (first | subst ea_ | (injection ea_ with ea_; subst ea_)); subst ec_; clear en_)); have GB66 := aM gb66; have GG66 := aM HG66; clear gb66 gl66 HG66; obtain ⟨ce66, hcl66, hM66, hcc66, hfr66⟩ := Kd.R_elem HO406.out z37 (t407 : Int) p66 q66; obtain rfl := k37_openM hM66; have hx66_0 : w76.cell? ⟨go66, (t407 : Int).toNat * 5, none⟩ = some (.int .i64 ((rd_T37 y404 t407).f0)) := hcc66 0 _ rfl; have hx66_1 : w76.cell? ⟨go66, (t407 : Int).toNat * 5 + 1, none⟩ = some (.int .i64 ((rd_T37 y404 t407).f1)) := hcc66 1 _ rfl; have hx66_2 : w76.cell? ⟨go66, (t407 : Int).toNat * 5 + 2, none⟩ = some (.int .i64 ((rd_T37 y404 t407).f2)) := hcc66 2 _ rfl; have hx66_3 : w76.cell? ⟨go66, (t407 : Int).toNat * 5 + 3, none⟩ = some (.bool ((rd_T37 y404 t407).f3)) := hcc66 3 _ rfl; have hx66_4 : w76.cell? ⟨go66, (t407 : Int).toNat * 5 + 4, none⟩ = some (.int .i64 ((rd_T37 y404 t407).f4)) := hcc66 4 _ rfl; have hf66_0 : w76.frozen? ⟨go66, (t407 : Int).toNat * 5, none⟩ = false := hfr66 0; have hf66_1 : w76.frozen? ⟨go66, (t407 : Int).toNat * 5 + 1, none⟩ = false := hfr66 1; have hf66_2 : w76.frozen? ⟨go66, (t407 : Int).toNat * 5 + 2, none⟩ = false := hfr66 2; have hf66_3 : w76.frozen? ⟨go66, (t407 : Int).toNat * 5 + 3, none⟩ = false := hfr66 3; have hf66_4 : w76.frozen? ⟨go66, (t407 : Int).toNat * 5 + 4, none⟩ = false := hfr66 4; clear hcl66 hcc66 hfr66; (try clear hM66); replace p66 := eq_true p66; replace q66 := eq_true q66; have HX77 := aM (show Kd.R k37 37 w76 w.heap.size (fun _ => True) (.slice (some ⟨go66, 0, none⟩) y404.length co70) y404 from (rr_ HO406.out)); obtain ⟨ce77, hcl77, hM77, hcc77, hfr77⟩ := Kd.R_elem HX77.out z37 (t407 : Int) (dt_) (by have h_ : (t407 : Int) < ((y404.length : Int) : Int) := dt_; first | exact h_ | (have e_ := (Kd.R_reads' HO406.out).1; omega) | simpa using h_); obtain rfl := k37_openM hM77; have HP77 := Kd.R_seg HX77.out (t407 : Int) (dt_) (by have h_ : (t407 : Int) < ((y404.length : Int) : Int) := dt_; first | exact h_ | (have e_ := (Kd.R_reads' HO406.out).1; omega) | simpa using h_) (seg := [.int .i64 t437]) (j := 4) hcl77 hcc77 (show 5 ≤ 5 from by decide) (x' := (⟨(rd_T37 y404 t407).f0, (rd_T37 y404 t407).f1, (rd_T37 y404 t407).f2, (rd_T37 y404 t407).f3, t437⟩ : S37)) (k37_mkM _ _ _ (⟨(rd_T37 y404 t407).f0, (rd_T37 y404 t407).f1, (rd_T37 y404 t407).f2, (rd_T37 y404 t407).f3, t437⟩ : S37) ) (fun _ hk => hk); have hx77_4 := hcc77 4 _ rfl; (try simp only [show (k37).sz = 5 from rfl, Nat.mul_one, Nat.add_zero] at hx77_4); have hf77_4 := hfr77 4; (try simp only [show (k37).sz = 5 from rfl, Nat.mul_one, Nat.add_zero] at hf77_4); clear hcl77 hcc77 hfr77; (try clear hM77)) | ((with_reducible refine gate_store (t := 3) (p := 55) rfl ?_); refine store_event (t := 3) (p := 55) (v := ?vo_w78) (w1 := (w76.setCell ⟨go66, (t407 : Int).toNat * 5 + 4, none⟩ (.int .i64 t437))) ?hg ?ho ?hn ?hr ?_; (case ho => rfl); (case hg => rfl); (case hn => rfl); (case hr => exact qz10); intro w78 hw; have hg : w76.grownBy w78 (some go66) := (by rw [hw]; exact HP77.2); have hp_ : Kd.R k37 37 w78 w.heap.size (fun _ => True) (.slice (some ⟨go66, 0, none⟩) y404.length co70) y440 := (by rw [hw, Ny440.out]; exact HP77.1); clear HP77; replace HI0 := aM (IsS113.grown qz3 hg (IsS113.own_ne HI0.out HO406.out (by decide))); replace HO436 := aM (Kd.R_over' (v := (.slice (some ⟨go66, 0, none⟩) y404.length co70)) (rr_ HO436.out) (Kd.R_typed HO406.out) (by decide) hg); replace HB := aM ((by rw [hw]; exact below_set (HB.out) (Nat.le_trans HL.out GB66.out) : Below w0.heap.size w0 w78)); replace HK := aM (KeepBut.trans qz2 (KeepBut.of_grown hg g) (Kd.R_base2 HO406.out)); replace HO406 := aM (hp_); clear hg hw hp_))
 go_ret
 exact ⟨_, qzw, by (with_reducible repeat (first | apply Kd.R_alloc | apply Kd.R_drewN | apply Kd.R_drew)); exact HO406.out, qz3, qz1, qz2⟩
 }
 {
 exact an_ c65 H
 }
 }
 {
 exact an_ c64 H
 }
 }
 {
 rw [if_neg c62] at H
 have c62b0 := beq_eq_false_iff_ne.mpr c62
 have c62b1 := bne_iff_ne.mpr c62
 simp only [Option.some.injEq, Prod.mk.injEq] at H
 obtain ⟨rfl, rfl, rfl⟩ := H
 go_enter Try.func97, Try.ntmps97
 go_wp2_with (first | ((with_reducible refine gate_dst (N := 7) rfl ?_); refine Kd.R_lit k37 _ 37 ?hg (N := 7) ?hd (xs := ([] : List (S37))) (inner := []) (ok := fun _ => True) (okp := fun _ => True) ?hr ?hp (fun _ hk => hk) trivial (Below.refl _ _) (Nat.le_refl _) (by simp) ?_; (case hd => rfl); (case hg => rfl); (case hr => exact qz10); (case hp => exact qz30); intro v402 w79 ho80 hb hg_ hnew_; clear hg_ hnew_; (first | rw [← Ny401.out] at ho80 | (simp only [Int.reduceToNat] at ho80; rw [← Ny401.out] at ho80)); have HO403 := aM (Kd.R_lower ho80 (keep_size (w := w) (g := g) (row := none) qz2)); replace HK := aM (KeepBut.trans qz2 (KeepBut.of_below hb g none) (.inl rfl)); replace HB := bS_ hb; replace HI0 := aM (IsS113.below qz3 hb); clear hb ho80) | ((with_reducible refine gate_builtin (b := .append) (xs := #[.tmp 7, .tmp 8]) rfl ?_); at_builtin; refine Kd.R_append_rows k37 w.heap.size rfl (.tmp 7) (.tmp 8) 26 37 (.agg #[(.int .i64 0), (.int .i64 0), (.int .i64 0), (.bool false), (.int .i64 0)]) 40 rfl Try.underlying26 info37 rfl (by decide) (by omega) v402 y401 l1 _ _ _ (fun _ => True) (fun _ => False) rfl rfl ?aO ?aR (fun _ _ h => h) (fun _ h => h.elim) ?aF (Below.refl _ _) ?aS ?aL ?_; (case aR => exact Kd.C_foot_now HR1.out qz2); (case aF => exact qz21); (case aO => exact (rr_ HO403.out)); (case aS => exact (keep_size (w := w) (g := g) (row := none) qz2)); (case aL => have := LMc3.out; omega); intro v405 w81 ho hb hg hat; rw [← Ny404.out] at ho; replace HB := aM (below_weaken qz1 HL.out hb); replace HI0 := aM (IsS113.grown qz3 hg (IsS113.own_ne HI0.out HO403.out (by decide))); replace HK := aM (KeepBut.trans qz2 (KeepBut.of_grown hg g) (Kd.R_base2 HO403.out)); have HO406 := aM (ho); clear HO403; clear ho hb hg hat; obtain ⟨Ao82, co82, eo82⟩ := Kd.R_slice HO406.out; subst eo82) | ((with_reducible refine gate_callee (f := 73) rfl ?_); refine goesL_ (some 17) rfl rfl Try.func73 (by kernel_rfl) rfl #[.pointer (some ⟨g, 0, none⟩), .int .i64 (y404.length : Int)] rfl qz4 ?_; (with_reducible refine (spec_l1Below.calls g s0_0 s0_1 s0_2 (y404.length : Int) t407 t408 t409 w0 _ ?side1 ?side2 A9.out).mono ?_); (case side1 => exact qz3); (case side2 => exact qz1); rintro e w83 ⟨rfl, hi, hb, hk⟩; refine ⟨_, rfl, ?_⟩; replace HO406 := aM (Kd.R_mono (Kd.R_keep (IsS113.apart (show IsS113 w0 _ g s0_0 s0_1 s0_2 from qz3) (rr_ HO406.out) (by decide)) hk (fun _ h => h.2)) (fun _ h => h.1)); replace HK := aM (KeepBut.trans qz2 hk (.inl rfl)); replace HB := aM (hb); replace HI0 := aM (hi); (try clear hb hk hi)) | ((with_reducible refine gate_callee (f := 73) rfl ?_); refine goesL_ (some 19) rfl rfl Try.func73 (by kernel_rfl) rfl #[.pointer (some ⟨g, 0, none⟩), .int .i64 6] rfl qz4 ?_; (with_reducible refine (spec_l1Below.calls g s0_0 t408 t409 6 t410 t411 t412 w0 _ ?side1 ?side2 A10.out).mono ?_); (case side1 => exact qz3); (case side2 => exact qz1); rintro e w84 ⟨rfl, hi, hb, hk⟩; refine ⟨_, rfl, ?_⟩; replace HO406 := aM (Kd.R_mono (Kd.R_keep (IsS113.apart (show IsS113 w0 _ g s0_0 t408 t409 from qz3) (rr_ HO406.out) (by decide)) hk (fun _ h => h.2)) (fun _ h => h.1)); replace HK := aM (KeepBut.trans qz2 hk (.inl rfl)); replace HB := aM (hb); replace HI0 := aM (hi); (try clear hb hk hi)))
 go_ret
 exact ⟨_, qzw, by (with_reducible repeat (first | apply Kd.R_alloc | apply Kd.R_drewN | apply Kd.R_drew)); exact HO406.out, qz3, qz1, qz2⟩
 }
 }
 }
 }
 }
 }
 {
 exact an_ c3 H

 }
/-! ### spec_l7DrawAny: function 58 -/
def spec_l7DrawAny.f (k : Nat) (s0_0 : List Int) (s0_1 : Int) (s0_2 : Int) : Option (Int × Int × List Int × (List (S37)) × Int × Int) := (spec_l1Floor.f k s0_0 s0_1 s0_2).bind fun bt442 => ((spec_l1Int.f s0_0 bt442.2.2.2.1 bt442.2.2.2.2 (([3, 6, 12] : List Int))).bind fun bt453 => ((spec_l7Crew.f k s0_0 bt453.2.1 bt453.2.2 bt442.1 bt442.2.1 bt442.2.2.1 bt453.1).bind fun bt456 => ((spec_l1Once.f s0_0 bt456.2.1 bt456.2.2 8).bind fun bt461 => (if bt461.1 = true then ((spec_l7Bend.f s0_0 bt461.2.1 bt461.2.2 bt456.1).bind fun bt464 => (some (bt442.1, bt442.2.1, bt442.2.2.1, bt464.1, bt464.2.1, bt464.2.2))) else (some (bt442.1, bt442.2.1, bt442.2.2.1, bt456.1, bt461.2.1, bt461.2.2))))))
theorem spec_l7DrawAny.mono : ∀ a0 a1 a2 k, LeO (spec_l7DrawAny.f k a0 a1 a2) (spec_l7DrawAny.f (k + 1) a0 a1 a2) := by
 intro a0 a1 a2 k
 unfold spec_l7DrawAny.f
 have j0 := @spec_l1Floor.mono
 have j1 := @spec_l7Crew.mono
 exact qL
set_option maxHeartbeats 8000000 in
set_option maxRecDepth 100000 in
theorem spec_l7DrawAny.calls (k : Nat) (g : Nat) (s0_0 : List Int) (s0_1 : Int) (s0_2 : Int) (r1 : Int) (r2 : Int) (r3 : List Int) (r4 : List (S37)) (r5 : Int) (r6 : Int) (w0 w : World) (hI : IsS113 w0 w g s0_0 s0_1 s0_2) (hB : Below w0.heap.size w0 w) (h : spec_l7DrawAny.f k s0_0 s0_1 s0_2 = some (r1, r2, r3, r4, r5, r6)) :
  Calls Try.prog 58 #[.pointer (some ⟨g, 0, none⟩)] w fun e w' => ∃ v2_ v3_ : Value, e = .returned (.tuple #[.agg #[.int .i64 r1, .int .i64 r2, v2_], v3_]) ∧ Kd.R (Kd.int .i64) 3 w' w.heap.size (fun _ => True) v2_ r3 ∧ Kd.R k37 37 w' w.heap.size (fun _ => True) v3_ r4 ∧ IsS113 w0 w' g s0_0 r5 r6 ∧ Below w0.heap.size w0 w' ∧ KeepBut w w' g none := by
 have hu43 := Try.underlying43
 have HI0 := aM hI
 have HK := aM (KeepBut.refl w g none)
 have HL := aM hB.size
 clear hI
 have HW0 := aM hB.size
 have HB := aM hB
 clear hB
 have H : ((spec_l1Floor.f k s0_0 s0_1 s0_2).bind fun bt442 => ((spec_l1Int.f s0_0 bt442.2.2.2.1 bt442.2.2.2.2 (([3, 6, 12] : List Int))).bind fun bt453 => ((spec_l7Crew.f k s0_0 bt453.2.1 bt453.2.2 bt442.1 bt442.2.1 bt442.2.2.1 bt453.1).bind fun bt456 => ((spec_l1Once.f s0_0 bt456.2.1 bt456.2.2 8).bind fun bt461 => (if bt461.1 = true then ((spec_l7Bend.f s0_0 bt461.2.1 bt461.2.2 bt456.1).bind fun bt464 => (some (bt442.1, bt442.2.1, bt442.2.2.1, bt464.1, bt464.2.1, bt464.2.2))) else (some (bt442.1, bt442.2.1, bt442.2.2.1, bt456.1, bt461.2.1, bt461.2.2))))))) = some (r1, r2, r3, r4, r5, r6) := h
 clear h
 replace H := Option.bind_eq_some_iff.mp H
 obtain ⟨⟨t442, t443, t444, t447, t448⟩, A20, H⟩ := H
 replace H : ((spec_l1Int.f s0_0 t447 t448 (([3, 6, 12] : List Int))).bind fun bt453 => ((spec_l7Crew.f k s0_0 bt453.2.1 bt453.2.2 t442 t443 t444 bt453.1).bind fun bt456 => ((spec_l1Once.f s0_0 bt456.2.1 bt456.2.2 8).bind fun bt461 => (if bt461.1 = true then ((spec_l7Bend.f s0_0 bt461.2.1 bt461.2.2 bt456.1).bind fun bt464 => (some (t442, t443, t444, bt464.1, bt464.2.1, bt464.2.2))) else (some (t442, t443, t444, bt456.1, bt461.2.1, bt461.2.2)))))) = some (r1, r2, r3, r4, r5, r6) := H
 have A2 := aM A20
 clear A20
 obtain ⟨y450, hy450⟩ : ∃ y_ : List Int, y_ = (([3, 6, 12] : List Int)) := ⟨_, rfl⟩
 replace H : ((spec_l1Int.f s0_0 t447 t448 y450).bind fun bt453 => ((spec_l7Crew.f k s0_0 bt453.2.1 bt453.2.2 t442 t443 t444 bt453.1).bind fun bt456 => ((spec_l1Once.f s0_0 bt456.2.1 bt456.2.2 8).bind fun bt461 => (if bt461.1 = true then ((spec_l7Bend.f s0_0 bt461.2.1 bt461.2.2 bt456.1).bind fun bt464 => (some (t442, t443, t444, bt464.1, bt464.2.1, bt464.2.2))) else (some (t442, t443, t444, bt456.1, bt461.2.1, bt461.2.2)))))) = some (r1, r2, r3, r4, r5, r6) := by first | (rw [hy450]; with_reducible exact H) | (have H2_ := (Option.bind_some _ _).symm.trans H; rw [hy450]; with_reducible exact H2_) | (have H2_ := (Option.bind_some _ _).symm.trans H; with_reducible exact H2_) | with_reducible exact H | (rw [hy450]; exact H) | exact H
 have Ny450 := aM hy450
 clear hy450
 replace H := Option.bind_eq_some_iff.mp H
 obtain ⟨⟨t453, t454, t455⟩, A30, H⟩ := H
 replace H : ((spec_l7Crew.f k s0_0 t454 t455 t442 t443 t444 t453).bind fun bt456 => ((spec_l1Once.f s0_0 bt456.2.1 bt456.2.2 8).bind fun bt461 => (if bt461.1 = true then ((spec_l7Bend.f s0_0 bt461.2.1 bt461.2.2 bt456.1).bind fun bt464 => (some (t442, t443, t444, bt464.1, bt464.2.1, bt464.2.2))) else (some (t442, t443, t444, bt456.1, bt461.2.1, bt461.2.2))))) = some (r1, r2, r3, r4, r5, r6) := H
 have A3 := aM A30
 clear A30
 replace H := Option.bind_eq_some_iff.mp H
 obtain ⟨⟨t456, t459, t460⟩, A40, H⟩ := H
 replace H : ((spec_l1Once.f s0_0 t459 t460 8).bind fun bt461 => (if bt461.1 = true then ((spec_l7Bend.f s0_0 bt461.2.1 bt461.2.2 t456).bind fun bt464 => (some (t442, t443, t444, bt464.1, bt464.2.1, bt464.2.2))) else (some (t442, t443, t444, t456, bt461.2.1, bt461.2.2)))) = some (r1, r2, r3, r4, r5, r6) := H
 have A4 := aM A40
 clear A40
 replace H := Option.bind_eq_some_iff.mp H
 obtain ⟨⟨t461, t462, t463⟩, A50, H⟩ := H
 replace H : (if t461 = true then ((spec_l7Bend.f s0_0 t462 t463 t456).bind fun bt464 => (some (t442, t443, t444, bt464.1, bt464.2.1, bt464.2.2))) else (some (t442, t443, t444, t456, t462, t463))) = some (r1, r2, r3, r4, r5, r6) := H
 have A5 := aM A50
 clear A50
 by_cases c6 : t461 = true
 {
 subst c6
 rw [if_pos rfl] at H
 replace H := Option.bind_eq_some_iff.mp H
 obtain ⟨⟨t464, t467, t468⟩, A70, H⟩ := H
 replace H : (some (t442, t443, t444, t464, t467, t468)) = some (r1, r2, r3, r4, r5, r6) := H
 have A7 := aM A70
 clear A70
 simp only [Option.some.injEq, Prod.mk.injEq] at H
 obtain ⟨rfl, rfl, rfl, rfl, rfl, rfl⟩ := H
 go_enter Try.func58, Try.ntmps58
 try go_wp2_with (first | ((with_reducible refine gate_dst (N := 2) rfl ?_); refine bx_ 2 #[.int .i64 0, .int .i64 0, .slice none 0 0] 43 ?_; intro gb441 hg w8 hbox hb; replace HB := bS_ hb; have BK441 := aM (hbox); have GW441 := aM (kz_ w g hg qz2); have GE441 := aM ((Nat.le_trans HW0.out (by rw [hg]; exact (keep_size (w := w) (g := g) (row := none) qz2) : w.heap.size ≤ gb441) : w0.heap.size ≤ gb441)); replace HK := aM (KeepBut.trans qz2 (KeepBut.of_below hb g none) (.inl rfl)); have NB0_441 := aM ((by rw [hg]; exact Nat.ne_of_lt (IsS113.lt (show IsS113 w0 _ g s0_0 s0_1 s0_2 from qz3)) : g ≠ gb441)); have NB441_0 := aM ((by rw [hg]; exact Nat.ne_of_gt (IsS113.lt (show IsS113 w0 _ g s0_0 s0_1 s0_2 from qz3)) : gb441 ≠ g)); replace HI0 := aM (IsS113.below qz3 hb); clear hb hbox hg) | ((with_reducible refine gate_callee (f := 84) rfl ?_); refine goesL_ (some 7) rfl rfl Try.func84 (by kernel_rfl) rfl #[.pointer (some ⟨g, 0, none⟩)] rfl qz4 ?_; (with_reducible refine (spec_l1Floor.calls k g s0_0 s0_1 s0_2 t442 t443 t444 t447 t448 w0 _ ?side1 ?side2 A2.out).mono ?_); (case side1 => exact qz3); (case side2 => exact qz1); rintro e w9 ⟨v445, rfl, ho0, hi, hb, hk⟩; refine ⟨_, rfl, ?_⟩; replace BK441 := aM (KeepBut.blk hk (bk_ BK441.out) NB441_0.out (by simp)); have HO446 := aM (Kd.R_lower ho0 (keep_size (w := w) (g := g) (row := none) qz2)); replace HK := aM (KeepBut.trans qz2 hk (.inl rfl)); replace HB := aM (hb); replace HI0 := aM (hi); (try clear hb hk hi ho0)) | ((with_reducible refine gate_dst (N := 4) rfl ?_); refine bx_ 4 #[.int .i64 0, .int .i64 0, .slice none 0 0] 43 ?_; intro gb449 hg w10 hbox hb; replace HO446 := aM (Kd.R_below (rr_ HO446.out) hb); replace HB := bS_ hb; have BK449 := aM (hbox); have GW449 := aM (kz_ w g hg qz2); have GE449 := aM ((Nat.le_trans HW0.out (by rw [hg]; exact (keep_size (w := w) (g := g) (row := none) qz2) : w.heap.size ≤ gb449) : w0.heap.size ≤ gb449)); replace HK := aM (KeepBut.trans qz2 (KeepBut.of_below hb g none) (.inl rfl)); obtain ⟨NB441_449, NB449_441⟩ := nb_ hg (bk_ BK441.out); replace BK441 := bB_ BK441 hb; have NB0_449 := aM ((by rw [hg]; exact Nat.ne_of_lt (IsS113.lt (show IsS113 w0 _ g s0_0 t447 t448 from qz3)) : g ≠ gb449)); have NB449_0 := aM ((by rw [hg]; exact Nat.ne_of_gt (IsS113.lt (show IsS113 w0 _ g s0_0 t447 t448 from qz3)) : gb449 ≠ g)); replace HI0 := aM (IsS113.below qz3 hb); clear hb hbox hg; have hnb11 := NB449_441.out; have hnc11 := NB441_449.out; have hnb12 := NB449_0.out; have hnc12 := NB0_449.out; obtain ⟨hcz13_0, hcz13_1, hcz13_2, hfz13_0, hfz13_1, hfz13_2⟩ := b6_ BK449.out; obtain ⟨Ao14, co14, eo14⟩ := Kd.R_slice HO446.out; subst eo14))
 generalize hq_ : (((w10.setCell ⟨gb449, 0, none⟩ (.int .i64 t442)).setCell ⟨gb449, 1, none⟩ (.int .i64 t443)).setCell ⟨gb449, 2, none⟩ (.slice Ao14 t444.length co14)) = w15
 replace HO446 : Aside0 (Kd.R (Kd.int .i64) 3 w15 w.heap.size (fun _ => True) (.slice Ao14 t444.length co14) t444) := ⟨by rw [← hq_]; exact (by (with_reducible repeat (first | apply Kd.R_alloc | apply Kd.R_drewN | apply Kd.R_drew)); exact Kd.R_mono (Kd.R_far (p := ⟨gb449, 2, none⟩) (Kd.R_far (p := ⟨gb449, 1, none⟩) (Kd.R_far (p := ⟨gb449, 0, none⟩) (Kd.R_types HO446.out BK449.out (by decide)) (fun _ hk => hk.2) (.int .i64 t442)) (fun _ hk => hk.2) (.int .i64 t443)) (fun _ hk => hk.2) (.slice Ao14 t444.length co14)) (fun _ hk => trivial))⟩
 replace BK441 : Aside0 (w15.heap[gb441]? = some (.cells #[.int .i64 0, .int .i64 0, .slice none 0 0] 43 (0, 0))) := ⟨by rw [← hq_]; exact (bk2_ BK441.out)⟩
 replace BK449 : Aside0 (w15.heap[gb449]? = some (.cells #[.int .i64 t442, .int .i64 t443, .slice Ao14 t444.length co14] 43 (0, 0))) := ⟨by rw [← hq_]; exact (by (with_reducible repeat (first | refine blk_drewN ?_ _ | refine blk_drew ?_ | refine blk_alloc ?_ _)); refine blk_put (cs := #[.int .i64 t442, .int .i64 t443, .slice none 0 0]) ?_ 2 _ rfl; (with_reducible repeat (first | refine blk_drewN ?_ _ | refine blk_drew ?_ | refine blk_alloc ?_ _)); refine blk_put (cs := #[.int .i64 t442, .int .i64 0, .slice none 0 0]) ?_ 1 _ rfl; (with_reducible repeat (first | refine blk_drewN ?_ _ | refine blk_drew ?_ | refine blk_alloc ?_ _)); refine blk_put (cs := #[.int .i64 0, .int .i64 0, .slice none 0 0]) ?_ 0 _ rfl; exact bk_ BK449.out)⟩
 replace HK : Aside0 (KeepBut w w15 g none) := ⟨by rw [← hq_]; exact qz2⟩
 replace HB : Aside0 (Below w0.heap.size w0 w15) := ⟨by rw [← hq_]; exact qz1⟩
 replace HI0 : Aside0 (IsS113 w0 w15 g s0_0 t447 t448) := ⟨by rw [← hq_]; exact qz3⟩
 clear hq_
 replace HO446 := aM (Kd.R_drew HO446.out)
 replace BK441 := aM (blk_drew BK441.out)
 replace BK449 := aM (blk_drew BK449.out)
 replace HI0 := aM (IsS113.drew HI0.out)
 replace HK := aM (keep_drew HK.out)
 replace HB := aM (below_drew1 HB.out)
 refine start_ (n := 7) (S := fun w' => w'.cell? ⟨gb449, 0, none⟩ = some (.int .i64 t442) ∧ w'.cell? ⟨gb449, 1, none⟩ = some (.int .i64 t443) ∧ w'.cell? ⟨gb449, 2, none⟩ = some (.slice Ao14 t444.length co14)) (ds := []) #[false, false, false, false, false, false, false] (by kernel_rfl) rfl rfl ⟨(blk_cell BK449.out 0).trans rfl, (blk_cell BK449.out 1).trans rfl, (blk_cell BK449.out 2).trans rfl⟩ (fun hHeld => ?_)
 generalize w15.drew = w16 at HO446 BK441 BK449 HI0 HK HB hHeld ⊢
 refine pure_ (i := 0) (N := some 8) (v := ?_) (a' := ?_) #[true, false, false, false, false, false, false] rfl rfl (by kernel_rfl) qzd (Or.inl ⟨by rfl, ?_⟩) ?_ ?_
 rotate_left
 {
 intro w'
 go_simp
 with_reducible rfl
 }
 rotate_left
 {
 simp only [qzs]
 rfl
 }
 refine pure_ (i := 2) (N := some 10) (v := ?_) (a' := ?_) #[true, false, true, false, false, false, false] rfl rfl (by kernel_rfl) qzd (Or.inl ⟨by rfl, ?_⟩) ?_ ?_
 rotate_left
 {
 intro w'
 go_simp
 with_reducible rfl
 }
 rotate_left
 {
 simp only [qzs]
 rfl
 }
 refine take_ (i := 1) (N := some 9) (v := ?_) (a' := ?_) #[true, true, true, false, false, false, false] rfl rfl (by kernel_rfl) qzd (Or.inl ⟨by rfl, ?_⟩) hHeld ?_ ?_
 rotate_left
 {
 rintro w' ⟨s0, s1, s2⟩
 go_simp
 with_reducible rfl
 }
 rotate_left
 {
 simp only [qzs]
 rfl
 }
 refine one_ (i := 3) (N := some 11) #[true, true, true, true, false, false, false] rfl rfl (by kernel_rfl) (by decide) (fun K hK => ?_)
 refine Kd.R_lit_step (Kd.int .i64) _ 3 ?hg (N := 11) ?hd (xs := ([3, 6, 12] : List Int)) (inner := [.int .i64 3, .int .i64 6, .int .i64 12]) (ok := fun _ => True) (okp := fun _ => True) ?hr ?hp (fun _ hk => hk) trivial (Below.refl _ _) (Nat.le_refl _) (by simp) ?_; (case hd => rfl); (case hg => rfl); (case hr => exact qz10); (case hp => exact qz28)
 intro v451 w17 ho18 hb hg_ hnew_
 clear hg_ hnew_
 (first | rw [← Ny450.out] at ho18 | (simp only [Int.reduceToNat] at ho18; rw [← Ny450.out] at ho18))
 have HO452 := aM (Kd.R_lower (Kd.R_new' ho18 (Kd.R_lt (rr_ HO446.out))) (keep_size (w := w) (g := g) (row := none) qz2))
 replace HO446 := aM (Kd.R_elder' (rr_ HO446.out) (Kd.R_base ho18) hb)
 replace BK441 := bB_ BK441 hb
 replace BK449 := bB_ BK449 hb
 replace HK := aM (KeepBut.trans qz2 (KeepBut.of_below hb g none) (.inl rfl))
 replace HB := bS_ hb
 replace HI0 := aM (IsS113.below qz3 hb)
 clear hb ho18
 obtain ⟨Ao19, co19, eo19⟩ := Kd.R_slice HO452.out
 (first | subst eo19 | (injection eo19 with f1_ f2_ f3_; have f4_ := f1_.symm; have f5_ := f3_.symm; clear f1_ f2_ f3_; subst f4_; subst f5_))
 refine hK.out _ _ ⟨(blk_cell BK449.out 0).trans rfl, (blk_cell BK449.out 1).trans rfl, (blk_cell BK449.out 2).trans rfl⟩ (fun hHeld => ?_)
 clear hK K
 refine nm_ 11 ?_
 refine one_ (i := 4) (N := some 12) #[true, true, true, true, true, false, false] rfl rfl (by kernel_rfl) (by decide) (fun K hK => ?_)
 refine goes_ Try.func81 (by kernel_rfl) rfl #[.pointer (some ⟨g, 0, none⟩), .slice Ao19 y450.length co19] (by rfl) rfl rfl qz4 ?_
 with_reducible refine (spec_l1Int.calls g s0_0 t447 t448 _ _ y450 t453 t454 t455 w0 _ ?side1 ?side2 ?side3 ?side4 ?side5 A3.out).mono ?_
 (case side1 => exact qz3)
 (case side2 => exact qz1)
 (case side3 => repeat (first | exact (Kd.R_reads' HO452.out).2.2 | (with_reducible refine Kd.C_alloc ?_ _) | (with_reducible refine Kd.C_drewN ?_ _) | (with_reducible refine Kd.C_drew ?_)))
 (case side4 => exact (Kd.R_reads' HO452.out).2.1)
 (case side5 => exact far_slice (IsS113.own_ne HI0.out HO452.out (by decide)))
 rintro e w20 ⟨rfl, hi, hb, hk⟩
 refine ⟨_, rfl, ?_⟩
 replace BK441 := aM (KeepBut.blk hk (bk_ BK441.out) NB441_0.out (by simp))
 replace HO446 := aM (Kd.R_mono (Kd.R_keep (IsS113.apart (show IsS113 w0 _ g s0_0 t447 t448 from qz3) (rr_ HO446.out) (by decide)) hk (fun _ h => h.2)) (fun _ h => h.1))
 replace BK449 := aM (KeepBut.blk hk (bk_ BK449.out) NB449_0.out (by simp))
 replace HO452 := aM (Kd.R_mono (Kd.R_keep (IsS113.apart (show IsS113 w0 _ g s0_0 t447 t448 from qz3) (rr_ HO452.out) (by decide)) hk (fun _ h => h.2)) (fun _ h => h.1))
 replace HK := aM (KeepBut.trans qz2 hk (.inl rfl))
 replace HB := aM (hb)
 replace HI0 := aM (hi)
 (try clear hb)
 (try clear hb2)
 (try clear hk)
 (try clear hi)
 refine hK.out _ _ ⟨(blk_cell BK449.out 0).trans rfl, (blk_cell BK449.out 1).trans rfl, (blk_cell BK449.out 2).trans rfl⟩ (fun hHeld => ?_)
 clear hK K
 refine nm_ 12 ?_
 refine one_ (i := 5) (N := some 13) #[true, true, true, true, true, true, false] rfl rfl (by kernel_rfl) (by decide) (fun K hK => ?_)
 refine goes_ Try.func85 (by kernel_rfl) rfl #[.pointer (some ⟨g, 0, none⟩), .agg #[.int .i64 t442, .int .i64 t443, .slice Ao14 t444.length co14], .int .i64 t453] (by rfl) rfl rfl qz4 ?_
 with_reducible refine (spec_l7Crew.calls k g s0_0 t454 t455 t442 t443 _ _ t444 t453 t456 t459 t460 w0 _ ?side1 ?side2 ?side3 ?side4 ?side5 A4.out).mono ?_
 (case side1 => exact qz3)
 (case side2 => exact qz1)
 (case side3 => repeat (first | exact (Kd.R_reads' HO446.out).2.2 | (with_reducible refine Kd.C_alloc ?_ _) | (with_reducible refine Kd.C_drewN ?_ _) | (with_reducible refine Kd.C_drew ?_)))
 (case side4 => exact (Kd.R_reads' HO446.out).2.1)
 (case side5 => exact far_slice (IsS113.own_ne HI0.out HO446.out (by decide)))
 rintro e w21 ⟨v457, rfl, ho0, hi, hb, hk⟩
 refine ⟨_, rfl, ?_⟩
 replace BK441 := aM (KeepBut.blk hk (bk_ BK441.out) NB441_0.out (by simp))
 replace HO446 := aM (Kd.R_mono (Kd.R_keep (IsS113.apart (show IsS113 w0 _ g s0_0 t454 t455 from qz3) (rr_ HO446.out) (by decide)) hk (fun _ h => h.2)) (fun _ h => h.1))
 replace BK449 := aM (KeepBut.blk hk (bk_ BK449.out) NB449_0.out (by simp))
 replace HO452 := aM (Kd.R_mono (Kd.R_keep (IsS113.apart (show IsS113 w0 _ g s0_0 t454 t455 from qz3) (rr_ HO452.out) (by decide)) hk (fun _ h => h.2)) (fun _ h => h.1))
 have HO458 := aM (Kd.R_lower ho0 (keep_size (w := w) (g := g) (row := none) qz2))
 replace HK := aM (KeepBut.trans qz2 hk (.inl rfl))
 replace HB := aM (hb)
 replace HI0 := aM (hi)
 (try clear hb)
 (try clear hb2)
 (try clear hk)
 (try clear hi)
 (try clear ho0)
 refine hK.out _ _ ⟨(blk_cell BK449.out 0).trans rfl, (blk_cell BK449.out 1).trans rfl, (blk_cell BK449.out 2).trans rfl⟩ (fun hHeld => ?_)
 clear hK K
 refine nm_ 13 ?_
 refine pure_ (i := 6) (N := some 5) (v := ?_) (a' := ?_) #[true, true, true, true, true, true, true] rfl rfl (by kernel_rfl) qzd (Or.inl ⟨by rfl, ?_⟩) ?_ ?_
 rotate_left
 {
 intro w'
 go_simp
 with_reducible rfl
 }
 rotate_left
 {
 simp only [qzs]
 rfl
 }
 refine done_ (by kernel_rfl) ?_
 try go_wp2_with (first | ((with_reducible refine gate_callee (f := 80) rfl ?_); refine goesL_ (some 15) rfl rfl Try.func80 (by kernel_rfl) rfl #[.pointer (some ⟨g, 0, none⟩), .int .i64 8] rfl qz4 ?_; (with_reducible refine (spec_l1Once.calls g s0_0 t459 t460 8 true t462 t463 w0 _ ?side1 ?side2 A5.out).mono ?_); (case side1 => exact qz3); (case side2 => exact qz1); rintro e w22 ⟨rfl, hi, hb, hk⟩; refine ⟨_, rfl, ?_⟩; replace BK441 := aM (KeepBut.blk hk (bk_ BK441.out) NB441_0.out (by simp)); replace HO446 := aM (Kd.R_mono (Kd.R_keep (IsS113.apart (show IsS113 w0 _ g s0_0 t459 t460 from qz3) (rr_ HO446.out) (by decide)) hk (fun _ h => h.2)) (fun _ h => h.1)); replace BK449 := aM (KeepBut.blk hk (bk_ BK449.out) NB449_0.out (by simp)); replace HO452 := aM (Kd.R_mono (Kd.R_keep (IsS113.apart (show IsS113 w0 _ g s0_0 t459 t460 from qz3) (rr_ HO452.out) (by decide)) hk (fun _ h => h.2)) (fun _ h => h.1)); replace HO458 := aM (Kd.R_mono (Kd.R_keep (IsS113.apart (show IsS113 w0 _ g s0_0 t459 t460 from qz3) (rr_ HO458.out) (by decide)) hk (fun _ h => h.2)) (fun _ h => h.1)); replace HK := aM (KeepBut.trans qz2 hk (.inl rfl)); replace HB := aM (hb); replace HI0 := aM (hi); (try clear hb hk hi); obtain ⟨Ao23, co23, eo23⟩ := Kd.R_slice HO458.out; subst eo23) | ((with_reducible refine gate_callee (f := 97) rfl ?_); refine goesL_ (some 18) rfl rfl Try.func97 (by kernel_rfl) rfl #[.pointer (some ⟨g, 0, none⟩), .slice Ao23 t456.length co23] rfl qz4 ?_; (with_reducible refine (spec_l7Bend.calls g s0_0 t462 t463 _ _ t456 t464 t467 t468 w0 _ ?side1 ?side2 ?side3 ?side4 A7.out).mono ?_); (case side1 => exact qz3); (case side2 => exact qz1); (case side3 => exact Kd.C_foot_own (IsS113.apart (show IsS113 w0 _ g s0_0 t462 t463 from qz3) (rr_ HO458.out) (by decide)) (fun _ h_ => h_.2)); (case side4 => exact (Kd.R_reads' HO458.out).2.1); rintro e w24 ⟨v465, rfl, ho0, hi, hb, hk⟩; refine ⟨_, rfl, ?_⟩; replace BK441 := aM (KeepBut.blk hk (bk_ BK441.out) NB441_0.out (by simp)); replace HO446 := aM (Kd.R_mono (Kd.R_keep (IsS113.apart (show IsS113 w0 _ g s0_0 t462 t463 from qz3) (rr_ HO446.out) (by decide)) hk (fun _ h => h.2)) (fun _ h => h.1)); replace BK449 := aM (KeepBut.blk hk (bk_ BK449.out) NB449_0.out (by simp)); replace HO452 := aM (Kd.R_mono (Kd.R_keep (IsS113.apart (show IsS113 w0 _ g s0_0 t462 t463 from qz3) (rr_ HO452.out) (by decide)) hk (fun _ h => h.2)) (fun _ h => h.1)); have HO466 := aM (Kd.R_lower (Kd.R_new' ho0 (Kd.R_lt (rr_ HO458.out))) (keep_size (w := w) (g := g) (row := none) qz2)); replace HO458 := aM (Kd.R_mono (Kd.R_told (Kd.R_oldK (IsS113.apart (show IsS113 w0 _ g s0_0 t462 t463 from qz3) (rr_ HO458.out) (by decide)) hk) (Kd.R_base ho0)) (fun _ h_ => h_.1)); replace HK := aM (KeepBut.trans qz2 hk (.inl rfl)); replace HB := aM (hb); replace HI0 := aM (hi); (try clear hb hk hi ho0); obtain ⟨hcz25_0, hcz25_1, hcz25_2, hfz25_0, hfz25_1, hfz25_2⟩ := b6_ BK449.out; have hnb26 := NB441_0.out; have hnc26 := NB0_441.out; obtain ⟨hcz27_0, hcz27_1, hcz27_2, hfz27_0, hfz27_1, hfz27_2⟩ := b6_ BK441.out))
 refine bodyPost_ret (results_ct rfl _ _ gb441 43 #[.int .i64 t442, .int .i64 t443, .slice Ao14 t444.length co14] (0, 0) _ rfl (by (with_reducible repeat (first | refine blk_drewN ?_ _ | refine blk_drew ?_ | refine blk_alloc ?_ _)); refine blk_put (cs := #[.int .i64 t442, .int .i64 t443, .slice none 0 0]) ?_ 2 _ rfl; (with_reducible repeat (first | refine blk_drewN ?_ _ | refine blk_drew ?_ | refine blk_alloc ?_ _)); refine blk_put (cs := #[.int .i64 t442, .int .i64 0, .slice none 0 0]) ?_ 1 _ rfl; (with_reducible repeat (first | refine blk_drewN ?_ _ | refine blk_drew ?_ | refine blk_alloc ?_ _)); refine blk_put (cs := #[.int .i64 0, .int .i64 0, .slice none 0 0]) ?_ 0 _ rfl; exact bk_ BK441.out) Try.underlying43 rfl (by kernel_rfl)) rfl ?_
 exact ⟨_, _, qzw, by (with_reducible repeat (first | apply Kd.R_alloc | apply Kd.R_drewN | apply Kd.R_drew)); exact Kd.R_mono (Kd.R_far (p := ⟨gb441, 2, none⟩) (Kd.R_far (p := ⟨gb441, 1, none⟩) (Kd.R_far (p := ⟨gb441, 0, none⟩) (Kd.R_types HO446.out BK441.out (by decide)) (fun _ hk => hk.2) (.int .i64 t442)) (fun _ hk => hk.2) (.int .i64 t443)) (fun _ hk => hk.2) (.slice Ao14 t444.length co14)) (fun _ hk => trivial), by (with_reducible repeat (first | apply Kd.R_alloc | apply Kd.R_drewN | apply Kd.R_drew)); exact Kd.R_mono (Kd.R_far (p := ⟨gb441, 2, none⟩) (Kd.R_far (p := ⟨gb441, 1, none⟩) (Kd.R_far (p := ⟨gb441, 0, none⟩) (Kd.R_types HO466.out BK441.out (by decide)) (fun _ hk => hk.2) (.int .i64 t442)) (fun _ hk => hk.2) (.int .i64 t443)) (fun _ hk => hk.2) (.slice Ao14 t444.length co14)) (fun _ hk => trivial), qz3, qz1, qz2⟩
 }
 {
 replace c6 := Bool.eq_false_iff.mpr c6
 subst c6
 rw [if_neg (show ¬ (false = true) by decide)] at H
 simp only [Option.some.injEq, Prod.mk.injEq] at H
 obtain ⟨rfl, rfl, rfl, rfl, rfl, rfl⟩ := H
 go_enter Try.func58, Try.ntmps58
 try go_wp2_with (first | ((with_reducible refine gate_dst (N := 2) rfl ?_); refine bx_ 2 #[.int .i64 0, .int .i64 0, .slice none 0 0] 43 ?_; intro gb441 hg w28 hbox hb; replace HB := bS_ hb; have BK441 := aM (hbox); have GW441 := aM (kz_ w g hg qz2); have GE441 := aM ((Nat.le_trans HW0.out (by rw [hg]; exact (keep_size (w := w) (g := g) (row := none) qz2) : w.heap.size ≤ gb441) : w0.heap.size ≤ gb441)); replace HK := aM (KeepBut.trans qz2 (KeepBut.of_below hb g none) (.inl rfl)); have NB0_441 := aM ((by rw [hg]; exact Nat.ne_of_lt (IsS113.lt (show IsS113 w0 _ g s0_0 s0_1 s0_2 from qz3)) : g ≠ gb441)); have NB441_0 := aM ((by rw [hg]; exact Nat.ne_of_gt (IsS113.lt (show IsS113 w0 _ g s0_0 s0_1 s0_2 from qz3)) : gb441 ≠ g)); replace HI0 := aM (IsS113.below qz3 hb); clear hb hbox hg) | ((with_reducible refine gate_callee (f := 84) rfl ?_); refine goesL_ (some 7) rfl rfl Try.func84 (by kernel_rfl) rfl #[.pointer (some ⟨g, 0, none⟩)] rfl qz4 ?_; (with_reducible refine (spec_l1Floor.calls k g s0_0 s0_1 s0_2 t442 t443 t444 t447 t448 w0 _ ?side1 ?side2 A2.out).mono ?_); (case side1 => exact qz3); (case side2 => exact qz1); rintro e w29 ⟨v445, rfl, ho0, hi, hb, hk⟩; refine ⟨_, rfl, ?_⟩; replace BK441 := aM (KeepBut.blk hk (bk_ BK441.out) NB441_0.out (by simp)); have HO446 := aM (Kd.R_lower ho0 (keep_size (w := w) (g := g) (row := none) qz2)); replace HK := aM (KeepBut.trans qz2 hk (.inl rfl)); replace HB := aM (hb); replace HI0 := aM (hi); (try clear hb hk hi ho0)) | ((with_reducible refine gate_dst (N := 4) rfl ?_); refine bx_ 4 #[.int .i64 0, .int .i64 0, .slice none 0 0] 43 ?_; intro gb449 hg w30 hbox hb; replace HO446 := aM (Kd.R_below (rr_ HO446.out) hb); replace HB := bS_ hb; have BK449 := aM (hbox); have GW449 := aM (kz_ w g hg qz2); have GE449 := aM ((Nat.le_trans HW0.out (by rw [hg]; exact (keep_size (w := w) (g := g) (row := none) qz2) : w.heap.size ≤ gb449) : w0.heap.size ≤ gb449)); replace HK := aM (KeepBut.trans qz2 (KeepBut.of_below hb g none) (.inl rfl)); obtain ⟨NB441_449, NB449_441⟩ := nb_ hg (bk_ BK441.out); replace BK441 := bB_ BK441 hb; have NB0_449 := aM ((by rw [hg]; exact Nat.ne_of_lt (IsS113.lt (show IsS113 w0 _ g s0_0 t447 t448 from qz3)) : g ≠ gb449)); have NB449_0 := aM ((by rw [hg]; exact Nat.ne_of_gt (IsS113.lt (show IsS113 w0 _ g s0_0 t447 t448 from qz3)) : gb449 ≠ g)); replace HI0 := aM (IsS113.below qz3 hb); clear hb hbox hg; have hnb31 := NB449_441.out; have hnc31 := NB441_449.out; have hnb32 := NB449_0.out; have hnc32 := NB0_449.out; obtain ⟨hcz33_0, hcz33_1, hcz33_2, hfz33_0, hfz33_1, hfz33_2⟩ := b6_ BK449.out; obtain ⟨Ao34, co34, eo34⟩ := Kd.R_slice HO446.out; subst eo34))
 generalize hq_ : (((w30.setCell ⟨gb449, 0, none⟩ (.int .i64 t442)).setCell ⟨gb449, 1, none⟩ (.int .i64 t443)).setCell ⟨gb449, 2, none⟩ (.slice Ao34 t444.length co34)) = w35
 replace HO446 : Aside0 (Kd.R (Kd.int .i64) 3 w35 w.heap.size (fun _ => True) (.slice Ao34 t444.length co34) t444) := ⟨by rw [← hq_]; exact (by (with_reducible repeat (first | apply Kd.R_alloc | apply Kd.R_drewN | apply Kd.R_drew)); exact Kd.R_mono (Kd.R_far (p := ⟨gb449, 2, none⟩) (Kd.R_far (p := ⟨gb449, 1, none⟩) (Kd.R_far (p := ⟨gb449, 0, none⟩) (Kd.R_types HO446.out BK449.out (by decide)) (fun _ hk => hk.2) (.int .i64 t442)) (fun _ hk => hk.2) (.int .i64 t443)) (fun _ hk => hk.2) (.slice Ao34 t444.length co34)) (fun _ hk => trivial))⟩
 replace BK441 : Aside0 (w35.heap[gb441]? = some (.cells #[.int .i64 0, .int .i64 0, .slice none 0 0] 43 (0, 0))) := ⟨by rw [← hq_]; exact (bk2_ BK441.out)⟩
 replace BK449 : Aside0 (w35.heap[gb449]? = some (.cells #[.int .i64 t442, .int .i64 t443, .slice Ao34 t444.length co34] 43 (0, 0))) := ⟨by rw [← hq_]; exact (by (with_reducible repeat (first | refine blk_drewN ?_ _ | refine blk_drew ?_ | refine blk_alloc ?_ _)); refine blk_put (cs := #[.int .i64 t442, .int .i64 t443, .slice none 0 0]) ?_ 2 _ rfl; (with_reducible repeat (first | refine blk_drewN ?_ _ | refine blk_drew ?_ | refine blk_alloc ?_ _)); refine blk_put (cs := #[.int .i64 t442, .int .i64 0, .slice none 0 0]) ?_ 1 _ rfl; (with_reducible repeat (first | refine blk_drewN ?_ _ | refine blk_drew ?_ | refine blk_alloc ?_ _)); refine blk_put (cs := #[.int .i64 0, .int .i64 0, .slice none 0 0]) ?_ 0 _ rfl; exact bk_ BK449.out)⟩
 replace HK : Aside0 (KeepBut w w35 g none) := ⟨by rw [← hq_]; exact qz2⟩
 replace HB : Aside0 (Below w0.heap.size w0 w35) := ⟨by rw [← hq_]; exact qz1⟩
 replace HI0 : Aside0 (IsS113 w0 w35 g s0_0 t447 t448) := ⟨by rw [← hq_]; exact qz3⟩
 clear hq_
 replace HO446 := aM (Kd.R_drew HO446.out)
 replace BK441 := aM (blk_drew BK441.out)
 replace BK449 := aM (blk_drew BK449.out)
 replace HI0 := aM (IsS113.drew HI0.out)
 replace HK := aM (keep_drew HK.out)
 replace HB := aM (below_drew1 HB.out)
 refine start_ (n := 7) (S := fun w' => w'.cell? ⟨gb449, 0, none⟩ = some (.int .i64 t442) ∧ w'.cell? ⟨gb449, 1, none⟩ = some (.int .i64 t443) ∧ w'.cell? ⟨gb449, 2, none⟩ = some (.slice Ao34 t444.length co34)) (ds := []) #[false, false, false, false, false, false, false] (by kernel_rfl) rfl rfl ⟨(blk_cell BK449.out 0).trans rfl, (blk_cell BK449.out 1).trans rfl, (blk_cell BK449.out 2).trans rfl⟩ (fun hHeld => ?_)
 generalize w35.drew = w36 at HO446 BK441 BK449 HI0 HK HB hHeld ⊢
 refine pure_ (i := 0) (N := some 8) (v := ?_) (a' := ?_) #[true, false, false, false, false, false, false] rfl rfl (by kernel_rfl) qzd (Or.inl ⟨by rfl, ?_⟩) ?_ ?_
 rotate_left
 {
 intro w'
 go_simp
 with_reducible rfl
 }
 rotate_left
 {
 simp only [qzs]
 rfl
 }
 refine pure_ (i := 2) (N := some 10) (v := ?_) (a' := ?_) #[true, false, true, false, false, false, false] rfl rfl (by kernel_rfl) qzd (Or.inl ⟨by rfl, ?_⟩) ?_ ?_
 rotate_left
 {
 intro w'
 go_simp
 with_reducible rfl
 }
 rotate_left
 {
 simp only [qzs]
 rfl
 }
 refine take_ (i := 1) (N := some 9) (v := ?_) (a' := ?_) #[true, true, true, false, false, false, false] rfl rfl (by kernel_rfl) qzd (Or.inl ⟨by rfl, ?_⟩) hHeld ?_ ?_
 rotate_left
 {
 rintro w' ⟨s0, s1, s2⟩
 go_simp
 with_reducible rfl
 }
 rotate_left
 {
 simp only [qzs]
 rfl
 }
 refine one_ (i := 3) (N := some 11) #[true, true, true, true, false, false, false] rfl rfl (by kernel_rfl) (by decide) (fun K hK => ?_)
 refine Kd.R_lit_step (Kd.int .i64) _ 3 ?hg (N := 11) ?hd (xs := ([3, 6, 12] : List Int)) (inner := [.int .i64 3, .int .i64 6, .int .i64 12]) (ok := fun _ => True) (okp := fun _ => True) ?hr ?hp (fun _ hk => hk) trivial (Below.refl _ _) (Nat.le_refl _) (by simp) ?_; (case hd => rfl); (case hg => rfl); (case hr => exact qz10); (case hp => exact qz28)
 intro v451 w37 ho38 hb hg_ hnew_
 clear hg_ hnew_
 (first | rw [← Ny450.out] at ho38 | (simp only [Int.reduceToNat] at ho38; rw [← Ny450.out] at ho38))
 have HO452 := aM (Kd.R_lower (Kd.R_new' ho38 (Kd.R_lt (rr_ HO446.out))) (keep_size (w := w) (g := g) (row := none) qz2))
 replace HO446 := aM (Kd.R_elder' (rr_ HO446.out) (Kd.R_base ho38) hb)
 replace BK441 := bB_ BK441 hb
 replace BK449 := bB_ BK449 hb
 replace HK := aM (KeepBut.trans qz2 (KeepBut.of_below hb g none) (.inl rfl))
 replace HB := bS_ hb
 replace HI0 := aM (IsS113.below qz3 hb)
 clear hb ho38
 obtain ⟨Ao39, co39, eo39⟩ := Kd.R_slice HO452.out
 (first | subst eo39 | (injection eo39 with f1_ f2_ f3_; have f4_ := f1_.symm; have f5_ := f3_.symm; clear f1_ f2_ f3_; subst f4_; subst f5_))
 refine hK.out _ _ ⟨(blk_cell BK449.out 0).trans rfl, (blk_cell BK449.out 1).trans rfl, (blk_cell BK449.out 2).trans rfl⟩ (fun hHeld => ?_)
 clear hK K
 refine nm_ 11 ?_
 refine one_ (i := 4) (N := some 12) #[true, true, true, true, true, false, false] rfl rfl (by kernel_rfl) (by decide) (fun K hK => ?_)
 refine goes_ Try.func81 (by kernel_rfl) rfl #[.pointer (some ⟨g, 0, none⟩), .slice Ao39 y450.length co39] (by rfl) rfl rfl qz4 ?_
 with_reducible refine (spec_l1Int.calls g s0_0 t447 t448 _ _ y450 t453 t454 t455 w0 _ ?side1 ?side2 ?side3 ?side4 ?side5 A3.out).mono ?_
 (case side1 => exact qz3)
 (case side2 => exact qz1)
 (case side3 => repeat (first | exact (Kd.R_reads' HO452.out).2.2 | (with_reducible refine Kd.C_alloc ?_ _) | (with_reducible refine Kd.C_drewN ?_ _) | (with_reducible refine Kd.C_drew ?_)))
 (case side4 => exact (Kd.R_reads' HO452.out).2.1)
 (case side5 => exact far_slice (IsS113.own_ne HI0.out HO452.out (by decide)))
 rintro e w40 ⟨rfl, hi, hb, hk⟩
 refine ⟨_, rfl, ?_⟩
 replace BK441 := aM (KeepBut.blk hk (bk_ BK441.out) NB441_0.out (by simp))
 replace HO446 := aM (Kd.R_mono (Kd.R_keep (IsS113.apart (show IsS113 w0 _ g s0_0 t447 t448 from qz3) (rr_ HO446.out) (by decide)) hk (fun _ h => h.2)) (fun _ h => h.1))
 replace BK449 := aM (KeepBut.blk hk (bk_ BK449.out) NB449_0.out (by simp))
 replace HO452 := aM (Kd.R_mono (Kd.R_keep (IsS113.apart (show IsS113 w0 _ g s0_0 t447 t448 from qz3) (rr_ HO452.out) (by decide)) hk (fun _ h => h.2)) (fun _ h => h.1))
 replace HK := aM (KeepBut.trans qz2 hk (.inl rfl))
 replace HB := aM (hb)
 replace HI0 := aM (hi)
 (try clear hb)
 (try clear hb2)
 (try clear hk)
 (try clear hi)
 refine hK.out _ _ ⟨(blk_cell BK449.out 0).trans rfl, (blk_cell BK449.out 1).trans rfl, (blk_cell BK449.out 2).trans rfl⟩ (fun hHeld => ?_)
 clear hK K
 refine nm_ 12 ?_
 refine one_ (i := 5) (N := some 13) #[true, true, true, true, true, true, false] rfl rfl (by kernel_rfl) (by decide) (fun K hK => ?_)
 refine goes_ Try.func85 (by kernel_rfl) rfl #[.pointer (some ⟨g, 0, none⟩), .agg #[.int .i64 t442, .int .i64 t443, .slice Ao34 t444.length co34], .int .i64 t453] (by rfl) rfl rfl qz4 ?_
 with_reducible refine (spec_l7Crew.calls k g s0_0 t454 t455 t442 t443 _ _ t444 t453 t456 t459 t460 w0 _ ?side1 ?side2 ?side3 ?side4 ?side5 A4.out).mono ?_
 (case side1 => exact qz3)
 (case side2 => exact qz1)
 (case side3 => repeat (first | exact (Kd.R_reads' HO446.out).2.2 | (with_reducible refine Kd.C_alloc ?_ _) | (with_reducible refine Kd.C_drewN ?_ _) | (with_reducible refine Kd.C_drew ?_)))
 (case side4 => exact (Kd.R_reads' HO446.out).2.1)
 (case side5 => exact far_slice (IsS113.own_ne HI0.out HO446.out (by decide)))
 rintro e w41 ⟨v457, rfl, ho0, hi, hb, hk⟩
 refine ⟨_, rfl, ?_⟩
 replace BK441 := aM (KeepBut.blk hk (bk_ BK441.out) NB441_0.out (by simp))
 replace HO446 := aM (Kd.R_mono (Kd.R_keep (IsS113.apart (show IsS113 w0 _ g s0_0 t454 t455 from qz3) (rr_ HO446.out) (by decide)) hk (fun _ h => h.2)) (fun _ h => h.1))
 replace BK449 := aM (KeepBut.blk hk (bk_ BK449.out) NB449_0.out (by simp))
 replace HO452 := aM (Kd.R_mono (Kd.R_keep (IsS113.apart (show IsS113 w0 _ g s0_0 t454 t455 from qz3) (rr_ HO452.out) (by decide)) hk (fun _ h => h.2)) (fun _ h => h.1))
 have HO458 := aM (Kd.R_lower ho0 (keep_size (w := w) (g := g) (row := none) qz2))
 replace HK := aM (KeepBut.trans qz2 hk (.inl rfl))
 replace HB := aM (hb)
 replace HI0 := aM (hi)
 (try clear hb)
 (try clear hb2)
 (try clear hk)
 (try clear hi)
 (try clear ho0)
 refine hK.out _ _ ⟨(blk_cell BK449.out 0).trans rfl, (blk_cell BK449.out 1).trans rfl, (blk_cell BK449.out 2).trans rfl⟩ (fun hHeld => ?_)
 clear hK K
 refine nm_ 13 ?_
 refine pure_ (i := 6) (N := some 5) (v := ?_) (a' := ?_) #[true, true, true, true, true, true, true] rfl rfl (by kernel_rfl) qzd (Or.inl ⟨by rfl, ?_⟩) ?_ ?_
 rotate_left
 {
 intro w'
 go_simp
 with_reducible rfl
 }
 rotate_left
 {
 simp only [qzs]
 rfl
 }
 refine done_ (by kernel_rfl) ?_
 try go_wp2_with (first | ((with_reducible refine gate_callee (f := 80) rfl ?_); refine goesL_ (some 15) rfl rfl Try.func80 (by kernel_rfl) rfl #[.pointer (some ⟨g, 0, none⟩), .int .i64 8] rfl qz4 ?_; (with_reducible refine (spec_l1Once.calls g s0_0 t459 t460 8 false t462 t463 w0 _ ?side1 ?side2 A5.out).mono ?_); (case side1 => exact qz3); (case side2 => exact qz1); rintro e w42 ⟨rfl, hi, hb, hk⟩; refine ⟨_, rfl, ?_⟩; replace BK441 := aM (KeepBut.blk hk (bk_ BK441.out) NB441_0.out (by simp)); replace HO446 := aM (Kd.R_mono (Kd.R_keep (IsS113.apart (show IsS113 w0 _ g s0_0 t459 t460 from qz3) (rr_ HO446.out) (by decide)) hk (fun _ h => h.2)) (fun _ h => h.1)); replace BK449 := aM (KeepBut.blk hk (bk_ BK449.out) NB449_0.out (by simp)); replace HO452 := aM (Kd.R_mono (Kd.R_keep (IsS113.apart (show IsS113 w0 _ g s0_0 t459 t460 from qz3) (rr_ HO452.out) (by decide)) hk (fun _ h => h.2)) (fun _ h => h.1)); replace HO458 := aM (Kd.R_mono (Kd.R_keep (IsS113.apart (show IsS113 w0 _ g s0_0 t459 t460 from qz3) (rr_ HO458.out) (by decide)) hk (fun _ h => h.2)) (fun _ h => h.1)); replace HK := aM (KeepBut.trans qz2 hk (.inl rfl)); replace HB := aM (hb); replace HI0 := aM (hi); (try clear hb hk hi); obtain ⟨hcz43_0, hcz43_1, hcz43_2, hfz43_0, hfz43_1, hfz43_2⟩ := b6_ BK449.out; have hnb44 := NB441_0.out; have hnc44 := NB0_441.out; obtain ⟨hcz45_0, hcz45_1, hcz45_2, hfz45_0, hfz45_1, hfz45_2⟩ := b6_ BK441.out))
 refine bodyPost_ret (results_ct rfl _ _ gb441 43 #[.int .i64 t442, .int .i64 t443, .slice Ao34 t444.length co34] (0, 0) _ rfl (by (with_reducible repeat (first | refine blk_drewN ?_ _ | refine blk_drew ?_ | refine blk_alloc ?_ _)); refine blk_put (cs := #[.int .i64 t442, .int .i64 t443, .slice none 0 0]) ?_ 2 _ rfl; (with_reducible repeat (first | refine blk_drewN ?_ _ | refine blk_drew ?_ | refine blk_alloc ?_ _)); refine blk_put (cs := #[.int .i64 t442, .int .i64 0, .slice none 0 0]) ?_ 1 _ rfl; (with_reducible repeat (first | refine blk_drewN ?_ _ | refine blk_drew ?_ | refine blk_alloc ?_ _)); refine blk_put (cs := #[.int .i64 0, .int .i64 0, .slice none 0 0]) ?_ 0 _ rfl; exact bk_ BK441.out) Try.underlying43 rfl (by kernel_rfl)) rfl ?_
 exact ⟨_, _, qzw, by (with_reducible repeat (first | apply Kd.R_alloc | apply Kd.R_drewN | apply Kd.R_drew)); exact Kd.R_mono (Kd.R_far (p := ⟨gb441, 2, none⟩) (Kd.R_far (p := ⟨gb441, 1, none⟩) (Kd.R_far (p := ⟨gb441, 0, none⟩) (Kd.R_types HO446.out BK441.out (by decide)) (fun _ hk => hk.2) (.int .i64 t442)) (fun _ hk => hk.2) (.int .i64 t443)) (fun _ hk => hk.2) (.slice Ao34 t444.length co34)) (fun _ hk => trivial), by (with_reducible repeat (first | apply Kd.R_alloc | apply Kd.R_drewN | apply Kd.R_drew)); exact Kd.R_mono (Kd.R_far (p := ⟨gb441, 2, none⟩) (Kd.R_far (p := ⟨gb441, 1, none⟩) (Kd.R_far (p := ⟨gb441, 0, none⟩) (Kd.R_types HO458.out BK441.out (by decide)) (fun _ hk => hk.2) (.int .i64 t442)) (fun _ hk => hk.2) (.int .i64 t443)) (fun _ hk => hk.2) (.slice Ao34 t444.length co34)) (fun _ hk => trivial), qz3, qz1, qz2⟩

 }
end Go.Proofs.Ytankmdbbgepmbaa.PFnChosen
