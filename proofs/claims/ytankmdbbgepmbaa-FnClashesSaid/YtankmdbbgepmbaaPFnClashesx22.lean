-- Made by a program of this session out of the translation. Lean checks it.
import Derived.Test.YtankmdbbgepmbaaPFnClashesx21
namespace Go.Proofs.Ytankmdbbgepmbaa.PFnClashes
open Go.RowKit Go.Proofs.YtankmdbbgepmbaaW.PrintWords Go.Proofs.YtankmdbbgepmbaaW.PrintLast Go.Proofs.YtankmdbbgepmbaaW.PrintMore
set_option linter.unusedVariables false
set_option linter.unusedSimpArgs false
set_option maxHeartbeats 16000000
set_option maxRecDepth 100000

/-! ### spec_l7Bend: function 97 -/
def spec_l7Bend.f (s0_0 : List Int) (s0_1 : Int) (s0_2 : Int) (l1 : List (S37)) : Option ((List (S37)) × Int × Int) := (some (([] : List (S37)) : List (S37))).bind fun y498 => (if y498.length + l1.length < 3518437208883 then ((some (y498 ++ l1 : List (S37))).bind fun y501 => (if (y501.length : Int) = 0 then (some (y501, s0_1, s0_2)) else ((spec_l1Below.f s0_0 s0_1 s0_2 (y501.length : Int)).bind fun bt504 => ((spec_l1Below.f s0_0 bt504.2.1 bt504.2.2 6).bind fun bt507 => (if bt507.1 = 0 then ((spec_l1Int.f s0_0 bt507.2.1 bt507.2.2 (([(-1), 0, 99] : List Int))).bind fun bt513 => (if 0 ≤ bt504.1 then (if bt504.1 < (y501.length : Int) then (some ((y501.set (bt504.1 : Int).toNat (⟨(rd_T37 y501 bt504.1).f0, bt513.1, (rd_T37 y501 bt504.1).f2, (rd_T37 y501 bt504.1).f3, (rd_T37 y501 bt504.1).f4⟩ : S37)), bt513.2.1, bt513.2.2)) else (none)) else (none))) else (if bt507.1 = 1 then ((spec_l1Int.f s0_0 bt507.2.1 bt507.2.2 (([(-2), 0, 100] : List Int))).bind fun bt520 => (if 0 ≤ bt504.1 then (if bt504.1 < (y501.length : Int) then (some ((y501.set (bt504.1 : Int).toNat (⟨(rd_T37 y501 bt504.1).f0, (rd_T37 y501 bt504.1).f1, bt520.1, (rd_T37 y501 bt504.1).f3, (rd_T37 y501 bt504.1).f4⟩ : S37)), bt520.2.1, bt520.2.2)) else (none)) else (none))) else (if bt507.1 = 2 then ((spec_l1Int.f s0_0 bt507.2.1 bt507.2.2 (([0, 1, 100] : List Int))).bind fun bt527 => (if 0 ≤ bt504.1 then (if bt504.1 < (y501.length : Int) then (some ((y501.set (bt504.1 : Int).toNat (⟨bt527.1, (rd_T37 y501 bt504.1).f1, (rd_T37 y501 bt504.1).f2, (rd_T37 y501 bt504.1).f3, (rd_T37 y501 bt504.1).f4⟩ : S37)), bt527.2.1, bt527.2.2)) else (none)) else (none))) else (if bt507.1 = 3 then ((spec_l1Int.f s0_0 bt507.2.1 bt507.2.2 (([(-1), 1000000, 1000001] : List Int))).bind fun bt534 => (if 0 ≤ bt504.1 then (if bt504.1 < (y501.length : Int) then (some ((y501.set (bt504.1 : Int).toNat (⟨(rd_T37 y501 bt504.1).f0, (rd_T37 y501 bt504.1).f1, (rd_T37 y501 bt504.1).f2, (rd_T37 y501 bt504.1).f3, bt534.1⟩ : S37)), bt534.2.1, bt534.2.2)) else (none)) else (none))) else (some (y501, bt507.2.1, bt507.2.2)))))))))) else (none))
theorem spec_l7Bend.calls (g : Nat) (s0_0 : List Int) (s0_1 : Int) (s0_2 : Int) (A1 : Option Addr) (c1 : Nat) (l1 : List (S37)) (r1 : List (S37)) (r2 : Int) (r3 : Int) (w0 w : World) (hI : IsS113 w0 w g s0_0 s0_1 s0_2) (hB : Below w0.heap.size w0 w) (hr1 : ∀ W_, KeepBut w W_ g none → Kd.C k37 W_ A1 l1.length l1) (hc1 : l1.length ≤ c1) (h : spec_l7Bend.f s0_0 s0_1 s0_2 l1 = some (r1, r2, r3)) :
  Calls Try.prog 97 #[.pointer (some ⟨g, 0, none⟩), .slice A1 l1.length c1] w fun e w' => ∃ v0_ : Value, e = .returned (v0_) ∧ Kd.R k37 37 w' w.heap.size (fun _ => True) v0_ r1 ∧ IsS113 w0 w' g s0_0 r2 r3 ∧ Below w0.heap.size w0 w' ∧ KeepBut w w' g none := by
 have HR1 := aM hr1
 have HC1 := aM hc1
 clear hr1 hc1
 have HI0 := aM hI
 have HK := aM (KeepBut.refl w g none)
 have HL := aM hB.size
 clear hI
 have HW0 := aM hB.size
 have HB := aM hB
 clear hB
 unfold spec_l7Bend.f at h
 have H := h
 clear h
 obtain ⟨y498, hy498⟩ : ∃ y_ : List (S37), y_ = (([] : List (S37))) := ⟨_, rfl⟩
 replace H := yB_ hy498 H
 have Ny498 := aM hy498
 clear hy498
 replace H := iN_ H
 obtain ⟨c3, H⟩ := H
 have LMc3 := aM c3
 clear c3
 obtain ⟨y501, hy501⟩ : ∃ y_ : List (S37), y_ = (y498 ++ l1) := ⟨_, rfl⟩
 replace H := yB_ hy501 H
 have Ny501 := aM hy501
 clear hy501
 go_enter Try.func97, Try.ntmps97
 go_upto_if 12 with (first | ((with_reducible refine gate_dst (N := 7) rfl ?_); refine Kd.R_lit k37 _ 37 ?hg (N := 7) ?hd (xs := ([] : List (S37))) (inner := []) (ok := fun _ => True) (okp := fun _ => True) ?hr ?hp (fun _ hk => hk) trivial (Below.refl _ _) (Nat.le_refl _) (by simp) ?_; (case hd => rfl); (case hg => rfl); (case hr => exact qz9); (case hp => exact (Reps.none _ _)); intro v499 w5 ho6 hb hg_ hnew_; clear hg_ hnew_; (first | rw [← Ny498.out] at ho6 | (simp only [Int.reduceToNat] at ho6; rw [← Ny498.out] at ho6)); have HO500 := aM (Kd.R_lower ho6 (keep_size (w := w) (g := g) (row := none) qz3)); replace HK := aM (KeepBut.trans qz3 (KeepBut.of_below hb g none) (.inl rfl)); replace HB := bS_ hb; replace HI0 := aM (IsS113.below qz4 hb); clear hb ho6) | ((with_reducible refine gate_builtin (b := .append) (xs := #[.tmp 7, .tmp 8]) rfl ?_); at_builtin; refine Kd.R_append_rows k37 w.heap.size rfl (.tmp 7) (.tmp 8) 26 37 (.agg #[(.int .i64 0), (.int .i64 0), (.int .i64 0), (.bool false), (.int .i64 0)]) 40 rfl Try.underlying26 info37 rfl (by decide) (by omega) v499 y498 l1 _ _ _ (fun _ => True) (fun _ => False) rfl rfl ?aO ?aR (fun _ _ h => h) (fun _ h => h.elim) ?aF (Below.refl _ _) ?aS ?aL ?_; (case aR => exact Kd.C_foot_now HR1.out qz3); (case aF => exact qz21); (case aO => exact (rr_ HO500.out)); (case aS => exact (keep_size (w := w) (g := g) (row := none) qz3)); (case aL => have := LMc3.out; omega); intro v502 w7 ho hb hg hat; rw [← Ny501.out] at ho; replace HB := aM (below_weaken qz1 HL.out hb); replace HI0 := aM (IsS113.grown qz4 hg (IsS113.own_ne HI0.out HO500.out (by decide))); replace HK := aM (KeepBut.trans qz3 (KeepBut.of_grown hg g) (Kd.R_base2 HO500.out)); have HO503 := aM (ho); clear HO500; clear ho hb hg hat; obtain ⟨Ao8, co8, eo8⟩ := Kd.R_slice HO503.out; subst eo8))
 replace H := iQ_ H
 rcases H with ⟨c4b0, c4b1, H⟩ | ⟨c4, c4b0, c4b1, H⟩
 {
 simp only [Option.some.injEq, Prod.mk.injEq] at H
 obtain ⟨rfl, rfl, rfl⟩ := H
 go_wp2
 go_ret
 exact ⟨_, qzw, by (with_reducible repeat (first | apply Kd.R_alloc | apply Kd.R_drewN | apply Kd.R_drew)); exact HO503.out, qz4, qz1, qz3⟩
 }
 {
 have c4b2 : ¬ (y501 = []) := fun h_ => c4 (by rw [h_]; rfl)
 replace H := Option.bind_eq_some_iff.mp H
 obtain ⟨⟨t504, t505, t506⟩, A90, H⟩ := H
 try dsimp only at H
 have A9 := aM A90
 clear A90
 replace H := Option.bind_eq_some_iff.mp H
 obtain ⟨⟨t507, t508, t509⟩, A100, H⟩ := H
 try dsimp only at H
 have A10 := aM A100
 clear A100
 go_upto_if 20 with (first | ((with_reducible refine gate_callee (f := 73) rfl ?_); refine goesL_ (some 17) rfl rfl Try.func73 (by kernel_rfl) rfl #[.pointer (some ⟨g, 0, none⟩), .int .i64 (y501.length : Int)] rfl qz2 ?_; (with_reducible refine (spec_l1Below.calls g s0_0 s0_1 s0_2 (y501.length : Int) t504 t505 t506 w0 _ ?_ ?_ A9.out).mono ?_); exact qz4; exact qz1; rintro e w20 ⟨rfl, hi, hb, hk⟩; refine ⟨_, rfl, ?_⟩; replace HO503 := aM (Kd.R_mono (Kd.R_keep (IsS113.apart (show IsS113 w0 _ g s0_0 s0_1 s0_2 from qz4) (rr_ HO503.out) (by decide)) hk (fun _ h => h.2)) (fun _ h => h.1)); replace HK := aM (KeepBut.trans qz3 hk (.inl rfl)); replace HB := aM (hb); replace HI0 := aM (hi); (try clear hb hk hi)) | ((with_reducible refine gate_callee (f := 73) rfl ?_); refine goesL_ (some 19) rfl rfl Try.func73 (by kernel_rfl) rfl #[.pointer (some ⟨g, 0, none⟩), .int .i64 6] rfl qz2 ?_; (with_reducible refine (spec_l1Below.calls g s0_0 t505 t506 6 t507 t508 t509 w0 _ ?_ ?_ A10.out).mono ?_); exact qz4; exact qz1; rintro e w21 ⟨rfl, hi, hb, hk⟩; refine ⟨_, rfl, ?_⟩; replace HO503 := aM (Kd.R_mono (Kd.R_keep (IsS113.apart (show IsS113 w0 _ g s0_0 t505 t506 from qz4) (rr_ HO503.out) (by decide)) hk (fun _ h => h.2)) (fun _ h => h.1)); replace HK := aM (KeepBut.trans qz3 hk (.inl rfl)); replace HB := aM (hb); replace HI0 := aM (hi); (try clear hb hk hi)))
 replace H := iQ_ H
 rcases H with ⟨c11b0, c11b1, H⟩ | ⟨c11, c11b0, c11b1, H⟩
 {
 obtain ⟨y510, hy510⟩ : ∃ y_ : List Int, y_ = (([(-1), 0, 99] : List Int)) := ⟨_, rfl⟩
 replace H : ((spec_l1Int.f s0_0 t508 t509 y510).bind fun bt513 => (if 0 ≤ t504 then (if t504 < (y501.length : Int) then (some ((y501.set (t504 : Int).toNat (⟨(rd_T37 y501 t504).f0, bt513.1, (rd_T37 y501 t504).f2, (rd_T37 y501 t504).f3, (rd_T37 y501 t504).f4⟩ : S37)), bt513.2.1, bt513.2.2)) else (none)) else (none))) = some (r1, r2, r3) := by first | (rw [hy510]; exact H) | exact H
 have Ny510 := aM hy510
 clear hy510
 replace H := Option.bind_eq_some_iff.mp H
 obtain ⟨⟨t513, t514, t515⟩, A120, H⟩ := H
 try dsimp only at H
 have A12 := aM A120
 clear A120
 replace H := iD_ H
 obtain ⟨c13b0, H⟩ := H
 replace H := iD_ H
 obtain ⟨c14b0, H⟩ := H
 obtain ⟨y516, hy516⟩ : ∃ y_ : List (S37), y_ = (y501.set (t504 : Int).toNat (⟨(rd_T37 y501 t504).f0, t513, (rd_T37 y501 t504).f2, (rd_T37 y501 t504).f3, (rd_T37 y501 t504).f4⟩ : S37)) := ⟨_, rfl⟩
 replace H : (some (y516, t514, t515)) = some (r1, r2, r3) := by first | (rw [hy516]; exact H) | exact H
 have Ny516 := aM hy516
 clear hy516
 simp only [Option.some.injEq, Prod.mk.injEq] at H
 obtain ⟨rfl, rfl, rfl⟩ := H
 go_wp2_with (first | ((with_reducible refine gate_dst (N := 25) rfl ?_); refine Kd.R_lit (Kd.int .i64) _ 3 ?hg (N := 25) ?hd (xs := ([(-1), 0, 99] : List Int)) (inner := [.int .i64 (-1), .int .i64 0, .int .i64 99]) (ok := fun _ => True) (okp := fun _ => True) ?hr ?hp (fun _ hk => hk) trivial (Below.refl _ _) (Nat.le_refl _) (by simp) ?_; (case hd => rfl); (case hg => rfl); (case hr => exact qz9); (case hp => exact (Reps.one (show Kd.M (Kd.int .i64) _ _ _ (-1) [.int .i64 (-1)] from rfl) (Reps.one (show Kd.M (Kd.int .i64) _ _ _ 0 [.int .i64 0] from rfl) (Reps.one (show Kd.M (Kd.int .i64) _ _ _ 99 [.int .i64 99] from rfl) (Reps.none _ _))))); intro v511 w22 ho23 hb hg_ hnew_; clear hg_ hnew_; (first | rw [← Ny510.out] at ho23 | (simp only [Int.reduceToNat] at ho23; rw [← Ny510.out] at ho23)); replace HO503 := aM (Kd.R_below (rr_ HO503.out) hb); have HO512 := aM (Kd.R_lower ho23 (keep_size (w := w) (g := g) (row := none) qz3)); replace HK := aM (KeepBut.trans qz3 (KeepBut.of_below hb g none) (.inl rfl)); replace HB := bS_ hb; replace HI0 := aM (IsS113.below qz4 hb); clear hb ho23; obtain ⟨Ao24, co24, eo24⟩ := Kd.R_slice HO512.out; subst eo24) | ((with_reducible refine gate_callee (f := 81) rfl ?_); refine goesL_ (some 26) rfl rfl Try.func81 (by kernel_rfl) rfl #[.pointer (some ⟨g, 0, none⟩), .slice Ao24 y510.length co24] rfl qz2 ?_; (with_reducible refine (spec_l1Int.calls g s0_0 t508 t509 _ _ y510 t513 t514 t515 w0 _ ?side1 ?side2 ?side3 ?side4 ?side5 A12.out).mono ?_); (case side1 => exact qz4); (case side2 => exact qz1); (case side3 => repeat (first | exact (Kd.R_reads' HO512.out).2.2 | (with_reducible refine Kd.C_alloc ?_ _) | (with_reducible refine Kd.C_drewN ?_ _) | (with_reducible refine Kd.C_drew ?_))); (case side4 => exact (Kd.R_reads' HO512.out).2.1); (case side5 => exact far_slice (IsS113.own_ne HI0.out HO512.out (by decide))); rintro e w25 ⟨rfl, hi, hb, hk⟩; refine ⟨_, rfl, ?_⟩; replace HO503 := aM (Kd.R_mono (Kd.R_keep (IsS113.apart (show IsS113 w0 _ g s0_0 t508 t509 from qz4) (rr_ HO503.out) (by decide)) hk (fun _ h => h.2)) (fun _ h => h.1)); replace HO512 := aM (Kd.R_mono (Kd.R_keep (IsS113.apart (show IsS113 w0 _ g s0_0 t508 t509 from qz4) (rr_ HO512.out) (by decide)) hk (fun _ h => h.2)) (fun _ h => h.1)); replace HK := aM (KeepBut.trans qz3 hk (.inl rfl)); replace HB := aM (hb); replace HI0 := aM (hi); (try clear hb hk hi); have p15 : 0 ≤ (t504 : Int) := dt_; have q15 : (t504 : Int) < ((y501.length : Int) : Int) := dt_; obtain ⟨go15, co15, eo15, gb15, gl15, cl15, HG15⟩ := Kd.R_form HO503.out (by omega); (first | cases eo15 | (injection eo15 with ea_ en_ ec_; (first | subst ea_ | (injection ea_ with ea_; subst ea_)); subst ec_; clear en_)); have GB15 := aM gb15; have GG15 := aM HG15; clear gb15 gl15 HG15; obtain ⟨ce15, hcl15, hM15, hcc15, hfr15⟩ := Kd.R_elem HO503.out z37 (t504 : Int) p15 q15; obtain rfl := k37_openM hM15; have hx15_0 : w25.cell? ⟨go15, (t504 : Int).toNat * 5, none⟩ = some (.int .i64 ((rd_T37 y501 t504).f0)) := hcc15 0 _ rfl; have hx15_1 : w25.cell? ⟨go15, (t504 : Int).toNat * 5 + 1, none⟩ = some (.int .i64 ((rd_T37 y501 t504).f1)) := hcc15 1 _ rfl; have hx15_2 : w25.cell? ⟨go15, (t504 : Int).toNat * 5 + 2, none⟩ = some (.int .i64 ((rd_T37 y501 t504).f2)) := hcc15 2 _ rfl; have hx15_3 : w25.cell? ⟨go15, (t504 : Int).toNat * 5 + 3, none⟩ = some (.bool ((rd_T37 y501 t504).f3)) := hcc15 3 _ rfl; have hx15_4 : w25.cell? ⟨go15, (t504 : Int).toNat * 5 + 4, none⟩ = some (.int .i64 ((rd_T37 y501 t504).f4)) := hcc15 4 _ rfl; have hf15_0 : w25.frozen? ⟨go15, (t504 : Int).toNat * 5, none⟩ = false := hfr15 0; have hf15_1 : w25.frozen? ⟨go15, (t504 : Int).toNat * 5 + 1, none⟩ = false := hfr15 1; have hf15_2 : w25.frozen? ⟨go15, (t504 : Int).toNat * 5 + 2, none⟩ = false := hfr15 2; have hf15_3 : w25.frozen? ⟨go15, (t504 : Int).toNat * 5 + 3, none⟩ = false := hfr15 3; have hf15_4 : w25.frozen? ⟨go15, (t504 : Int).toNat * 5 + 4, none⟩ = false := hfr15 4; clear hcl15 hcc15 hfr15; (try clear hM15); replace p15 := eq_true p15; replace q15 := eq_true q15; have HX26 := aM (show Kd.R k37 37 w25 w.heap.size (fun _ => True) (.slice (some ⟨go15, 0, none⟩) y501.length co8) y501 from (rr_ HO503.out)); obtain ⟨ce26, hcl26, hM26, hcc26, hfr26⟩ := Kd.R_elem HX26.out z37 (t504 : Int) (dt_) (by have h_ : (t504 : Int) < ((y501.length : Int) : Int) := dt_; first | exact h_ | (have e_ := (Kd.R_reads' HO503.out).1; omega) | simpa using h_); obtain rfl := k37_openM hM26; have HP26 := Kd.R_seg HX26.out (t504 : Int) (dt_) (by have h_ : (t504 : Int) < ((y501.length : Int) : Int) := dt_; first | exact h_ | (have e_ := (Kd.R_reads' HO503.out).1; omega) | simpa using h_) (seg := [.int .i64 t513]) (j := 1) hcl26 hcc26 (show 2 ≤ 5 from by decide) (x' := (⟨(rd_T37 y501 t504).f0, t513, (rd_T37 y501 t504).f2, (rd_T37 y501 t504).f3, (rd_T37 y501 t504).f4⟩ : S37)) (k37_mkM _ _ _ (⟨(rd_T37 y501 t504).f0, t513, (rd_T37 y501 t504).f2, (rd_T37 y501 t504).f3, (rd_T37 y501 t504).f4⟩ : S37) ) (fun _ hk => hk); have hx26_1 := hcc26 1 _ rfl; (try simp only [show (k37).sz = 5 from rfl, Nat.mul_one, Nat.add_zero] at hx26_1); have hf26_1 := hfr26 1; (try simp only [show (k37).sz = 5 from rfl, Nat.mul_one, Nat.add_zero] at hf26_1); clear hcl26 hcc26 hfr26; (try clear hM26)) | ((with_reducible refine gate_store (t := 3) (p := 28) rfl ?_); refine store_event (t := 3) (p := 28) (v := ?vo_w27) (w1 := (w25.setCell ⟨go15, (t504 : Int).toNat * 5 + 1, none⟩ (.int .i64 t513))) ?hg ?ho ?hn ?hr ?_; (case ho => rfl); (case hg => rfl); (case hn => rfl); (case hr => exact qz9); intro w27 hw; have hg : w25.grownBy w27 (some go15) := (by rw [hw]; exact HP26.2); have hp_ : Kd.R k37 37 w27 w.heap.size (fun _ => True) (.slice (some ⟨go15, 0, none⟩) y501.length co8) y516 := (by rw [hw, Ny516.out]; exact HP26.1); clear HP26; replace HI0 := aM (IsS113.grown qz4 hg (IsS113.own_ne HI0.out HO503.out (by decide))); replace HO512 := aM (Kd.R_over' (v := (.slice (some ⟨go15, 0, none⟩) y501.length co8)) (rr_ HO512.out) (Kd.R_typed HO503.out) (by decide) hg); replace HB := aM ((by rw [hw]; exact below_set (HB.out) (Nat.le_trans HL.out GB15.out) : Below w0.heap.size w0 w27)); replace HK := aM (KeepBut.trans qz3 (KeepBut.of_grown hg g) (Kd.R_base2 HO503.out)); replace HO503 := aM (hp_); clear hg hw hp_))
 go_ret
 exact ⟨_, qzw, by (with_reducible repeat (first | apply Kd.R_alloc | apply Kd.R_drewN | apply Kd.R_drew)); exact HO503.out, qz4, qz1, qz3⟩
 }
 {
 go_upto_if 29 with (fail)
 replace H := iQ_ H
 rcases H with ⟨c28b0, c28b1, H⟩ | ⟨c28, c28b0, c28b1, H⟩
 {
 obtain ⟨y517, hy517⟩ : ∃ y_ : List Int, y_ = (([(-2), 0, 100] : List Int)) := ⟨_, rfl⟩
 replace H : ((spec_l1Int.f s0_0 t508 t509 y517).bind fun bt520 => (if 0 ≤ t504 then (if t504 < (y501.length : Int) then (some ((y501.set (t504 : Int).toNat (⟨(rd_T37 y501 t504).f0, (rd_T37 y501 t504).f1, bt520.1, (rd_T37 y501 t504).f3, (rd_T37 y501 t504).f4⟩ : S37)), bt520.2.1, bt520.2.2)) else (none)) else (none))) = some (r1, r2, r3) := by first | (rw [hy517]; exact H) | exact H
 have Ny517 := aM hy517
 clear hy517
 replace H := Option.bind_eq_some_iff.mp H
 obtain ⟨⟨t520, t521, t522⟩, A290, H⟩ := H
 try dsimp only at H
 have A29 := aM A290
 clear A290
 replace H := iD_ H
 obtain ⟨c30b0, H⟩ := H
 replace H := iD_ H
 obtain ⟨c31b0, H⟩ := H
 obtain ⟨y523, hy523⟩ : ∃ y_ : List (S37), y_ = (y501.set (t504 : Int).toNat (⟨(rd_T37 y501 t504).f0, (rd_T37 y501 t504).f1, t520, (rd_T37 y501 t504).f3, (rd_T37 y501 t504).f4⟩ : S37)) := ⟨_, rfl⟩
 replace H : (some (y523, t521, t522)) = some (r1, r2, r3) := by first | (rw [hy523]; exact H) | exact H
 have Ny523 := aM hy523
 clear hy523
 simp only [Option.some.injEq, Prod.mk.injEq] at H
 obtain ⟨rfl, rfl, rfl⟩ := H
 go_wp2_with (first | ((with_reducible refine gate_dst (N := 34) rfl ?_); refine Kd.R_lit (Kd.int .i64) _ 3 ?hg (N := 34) ?hd (xs := ([(-2), 0, 100] : List Int)) (inner := [.int .i64 (-2), .int .i64 0, .int .i64 100]) (ok := fun _ => True) (okp := fun _ => True) ?hr ?hp (fun _ hk => hk) trivial (Below.refl _ _) (Nat.le_refl _) (by simp) ?_; (case hd => rfl); (case hg => rfl); (case hr => exact qz9); (case hp => exact (Reps.one (show Kd.M (Kd.int .i64) _ _ _ (-2) [.int .i64 (-2)] from rfl) (Reps.one (show Kd.M (Kd.int .i64) _ _ _ 0 [.int .i64 0] from rfl) (Reps.one (show Kd.M (Kd.int .i64) _ _ _ 100 [.int .i64 100] from rfl) (Reps.none _ _))))); intro v518 w39 ho40 hb hg_ hnew_; clear hg_ hnew_; (first | rw [← Ny517.out] at ho40 | (simp only [Int.reduceToNat] at ho40; rw [← Ny517.out] at ho40)); replace HO503 := aM (Kd.R_below (rr_ HO503.out) hb); have HO519 := aM (Kd.R_lower ho40 (keep_size (w := w) (g := g) (row := none) qz3)); replace HK := aM (KeepBut.trans qz3 (KeepBut.of_below hb g none) (.inl rfl)); replace HB := bS_ hb; replace HI0 := aM (IsS113.below qz4 hb); clear hb ho40; obtain ⟨Ao41, co41, eo41⟩ := Kd.R_slice HO519.out; subst eo41) | ((with_reducible refine gate_callee (f := 81) rfl ?_); refine goesL_ (some 35) rfl rfl Try.func81 (by kernel_rfl) rfl #[.pointer (some ⟨g, 0, none⟩), .slice Ao41 y517.length co41] rfl qz2 ?_; (with_reducible refine (spec_l1Int.calls g s0_0 t508 t509 _ _ y517 t520 t521 t522 w0 _ ?side1 ?side2 ?side3 ?side4 ?side5 A29.out).mono ?_); (case side1 => exact qz4); (case side2 => exact qz1); (case side3 => repeat (first | exact (Kd.R_reads' HO519.out).2.2 | (with_reducible refine Kd.C_alloc ?_ _) | (with_reducible refine Kd.C_drewN ?_ _) | (with_reducible refine Kd.C_drew ?_))); (case side4 => exact (Kd.R_reads' HO519.out).2.1); (case side5 => exact far_slice (IsS113.own_ne HI0.out HO519.out (by decide))); rintro e w42 ⟨rfl, hi, hb, hk⟩; refine ⟨_, rfl, ?_⟩; replace HO503 := aM (Kd.R_mono (Kd.R_keep (IsS113.apart (show IsS113 w0 _ g s0_0 t508 t509 from qz4) (rr_ HO503.out) (by decide)) hk (fun _ h => h.2)) (fun _ h => h.1)); replace HO519 := aM (Kd.R_mono (Kd.R_keep (IsS113.apart (show IsS113 w0 _ g s0_0 t508 t509 from qz4) (rr_ HO519.out) (by decide)) hk (fun _ h => h.2)) (fun _ h => h.1)); replace HK := aM (KeepBut.trans qz3 hk (.inl rfl)); replace HB := aM (hb); replace HI0 := aM (hi); (try clear hb hk hi); have p32 : 0 ≤ (t504 : Int) := dt_; have q32 : (t504 : Int) < ((y501.length : Int) : Int) := dt_; obtain ⟨go32, co32, eo32, gb32, gl32, cl32, HG32⟩ := Kd.R_form HO503.out (by omega); (first | cases eo32 | (injection eo32 with ea_ en_ ec_; (first | subst ea_ | (injection ea_ with ea_; subst ea_)); subst ec_; clear en_)); have GB32 := aM gb32; have GG32 := aM HG32; clear gb32 gl32 HG32; obtain ⟨ce32, hcl32, hM32, hcc32, hfr32⟩ := Kd.R_elem HO503.out z37 (t504 : Int) p32 q32; obtain rfl := k37_openM hM32; have hx32_0 : w42.cell? ⟨go32, (t504 : Int).toNat * 5, none⟩ = some (.int .i64 ((rd_T37 y501 t504).f0)) := hcc32 0 _ rfl; have hx32_1 : w42.cell? ⟨go32, (t504 : Int).toNat * 5 + 1, none⟩ = some (.int .i64 ((rd_T37 y501 t504).f1)) := hcc32 1 _ rfl; have hx32_2 : w42.cell? ⟨go32, (t504 : Int).toNat * 5 + 2, none⟩ = some (.int .i64 ((rd_T37 y501 t504).f2)) := hcc32 2 _ rfl; have hx32_3 : w42.cell? ⟨go32, (t504 : Int).toNat * 5 + 3, none⟩ = some (.bool ((rd_T37 y501 t504).f3)) := hcc32 3 _ rfl; have hx32_4 : w42.cell? ⟨go32, (t504 : Int).toNat * 5 + 4, none⟩ = some (.int .i64 ((rd_T37 y501 t504).f4)) := hcc32 4 _ rfl; have hf32_0 : w42.frozen? ⟨go32, (t504 : Int).toNat * 5, none⟩ = false := hfr32 0; have hf32_1 : w42.frozen? ⟨go32, (t504 : Int).toNat * 5 + 1, none⟩ = false := hfr32 1; have hf32_2 : w42.frozen? ⟨go32, (t504 : Int).toNat * 5 + 2, none⟩ = false := hfr32 2; have hf32_3 : w42.frozen? ⟨go32, (t504 : Int).toNat * 5 + 3, none⟩ = false := hfr32 3; have hf32_4 : w42.frozen? ⟨go32, (t504 : Int).toNat * 5 + 4, none⟩ = false := hfr32 4; clear hcl32 hcc32 hfr32; (try clear hM32); replace p32 := eq_true p32; replace q32 := eq_true q32; have HX43 := aM (show Kd.R k37 37 w42 w.heap.size (fun _ => True) (.slice (some ⟨go32, 0, none⟩) y501.length co8) y501 from (rr_ HO503.out)); obtain ⟨ce43, hcl43, hM43, hcc43, hfr43⟩ := Kd.R_elem HX43.out z37 (t504 : Int) (dt_) (by have h_ : (t504 : Int) < ((y501.length : Int) : Int) := dt_; first | exact h_ | (have e_ := (Kd.R_reads' HO503.out).1; omega) | simpa using h_); obtain rfl := k37_openM hM43; have HP43 := Kd.R_seg HX43.out (t504 : Int) (dt_) (by have h_ : (t504 : Int) < ((y501.length : Int) : Int) := dt_; first | exact h_ | (have e_ := (Kd.R_reads' HO503.out).1; omega) | simpa using h_) (seg := [.int .i64 t520]) (j := 2) hcl43 hcc43 (show 3 ≤ 5 from by decide) (x' := (⟨(rd_T37 y501 t504).f0, (rd_T37 y501 t504).f1, t520, (rd_T37 y501 t504).f3, (rd_T37 y501 t504).f4⟩ : S37)) (k37_mkM _ _ _ (⟨(rd_T37 y501 t504).f0, (rd_T37 y501 t504).f1, t520, (rd_T37 y501 t504).f3, (rd_T37 y501 t504).f4⟩ : S37) ) (fun _ hk => hk); have hx43_2 := hcc43 2 _ rfl; (try simp only [show (k37).sz = 5 from rfl, Nat.mul_one, Nat.add_zero] at hx43_2); have hf43_2 := hfr43 2; (try simp only [show (k37).sz = 5 from rfl, Nat.mul_one, Nat.add_zero] at hf43_2); clear hcl43 hcc43 hfr43; (try clear hM43)) | ((with_reducible refine gate_store (t := 3) (p := 37) rfl ?_); refine store_event (t := 3) (p := 37) (v := ?vo_w44) (w1 := (w42.setCell ⟨go32, (t504 : Int).toNat * 5 + 2, none⟩ (.int .i64 t520))) ?hg ?ho ?hn ?hr ?_; (case ho => rfl); (case hg => rfl); (case hn => rfl); (case hr => exact qz9); intro w44 hw; have hg : w42.grownBy w44 (some go32) := (by rw [hw]; exact HP43.2); have hp_ : Kd.R k37 37 w44 w.heap.size (fun _ => True) (.slice (some ⟨go32, 0, none⟩) y501.length co8) y523 := (by rw [hw, Ny523.out]; exact HP43.1); clear HP43; replace HI0 := aM (IsS113.grown qz4 hg (IsS113.own_ne HI0.out HO503.out (by decide))); replace HO519 := aM (Kd.R_over' (v := (.slice (some ⟨go32, 0, none⟩) y501.length co8)) (rr_ HO519.out) (Kd.R_typed HO503.out) (by decide) hg); replace HB := aM ((by rw [hw]; exact below_set (HB.out) (Nat.le_trans HL.out GB32.out) : Below w0.heap.size w0 w44)); replace HK := aM (KeepBut.trans qz3 (KeepBut.of_grown hg g) (Kd.R_base2 HO503.out)); replace HO503 := aM (hp_); clear hg hw hp_))
 go_ret
 exact ⟨_, qzw, by (with_reducible repeat (first | apply Kd.R_alloc | apply Kd.R_drewN | apply Kd.R_drew)); exact HO503.out, qz4, qz1, qz3⟩
 }
 {
 go_upto_if 38 with (fail)
 replace H := iQ_ H
 rcases H with ⟨c45b0, c45b1, H⟩ | ⟨c45, c45b0, c45b1, H⟩
 {
 obtain ⟨y524, hy524⟩ : ∃ y_ : List Int, y_ = (([0, 1, 100] : List Int)) := ⟨_, rfl⟩
 replace H : ((spec_l1Int.f s0_0 t508 t509 y524).bind fun bt527 => (if 0 ≤ t504 then (if t504 < (y501.length : Int) then (some ((y501.set (t504 : Int).toNat (⟨bt527.1, (rd_T37 y501 t504).f1, (rd_T37 y501 t504).f2, (rd_T37 y501 t504).f3, (rd_T37 y501 t504).f4⟩ : S37)), bt527.2.1, bt527.2.2)) else (none)) else (none))) = some (r1, r2, r3) := by first | (rw [hy524]; exact H) | exact H
 have Ny524 := aM hy524
 clear hy524
 replace H := Option.bind_eq_some_iff.mp H
 obtain ⟨⟨t527, t528, t529⟩, A460, H⟩ := H
 try dsimp only at H
 have A46 := aM A460
 clear A460
 replace H := iD_ H
 obtain ⟨c47b0, H⟩ := H
 replace H := iD_ H
 obtain ⟨c48b0, H⟩ := H
 obtain ⟨y530, hy530⟩ : ∃ y_ : List (S37), y_ = (y501.set (t504 : Int).toNat (⟨t527, (rd_T37 y501 t504).f1, (rd_T37 y501 t504).f2, (rd_T37 y501 t504).f3, (rd_T37 y501 t504).f4⟩ : S37)) := ⟨_, rfl⟩
 replace H : (some (y530, t528, t529)) = some (r1, r2, r3) := by first | (rw [hy530]; exact H) | exact H
 have Ny530 := aM hy530
 clear hy530
 simp only [Option.some.injEq, Prod.mk.injEq] at H
 obtain ⟨rfl, rfl, rfl⟩ := H
 go_wp2_with (first | ((with_reducible refine gate_dst (N := 43) rfl ?_); refine Kd.R_lit (Kd.int .i64) _ 3 ?hg (N := 43) ?hd (xs := ([0, 1, 100] : List Int)) (inner := [.int .i64 0, .int .i64 1, .int .i64 100]) (ok := fun _ => True) (okp := fun _ => True) ?hr ?hp (fun _ hk => hk) trivial (Below.refl _ _) (Nat.le_refl _) (by simp) ?_; (case hd => rfl); (case hg => rfl); (case hr => exact qz9); (case hp => exact (Reps.one (show Kd.M (Kd.int .i64) _ _ _ 0 [.int .i64 0] from rfl) (Reps.one (show Kd.M (Kd.int .i64) _ _ _ 1 [.int .i64 1] from rfl) (Reps.one (show Kd.M (Kd.int .i64) _ _ _ 100 [.int .i64 100] from rfl) (Reps.none _ _))))); intro v525 w56 ho57 hb hg_ hnew_; clear hg_ hnew_; (first | rw [← Ny524.out] at ho57 | (simp only [Int.reduceToNat] at ho57; rw [← Ny524.out] at ho57)); replace HO503 := aM (Kd.R_below (rr_ HO503.out) hb); have HO526 := aM (Kd.R_lower ho57 (keep_size (w := w) (g := g) (row := none) qz3)); replace HK := aM (KeepBut.trans qz3 (KeepBut.of_below hb g none) (.inl rfl)); replace HB := bS_ hb; replace HI0 := aM (IsS113.below qz4 hb); clear hb ho57; obtain ⟨Ao58, co58, eo58⟩ := Kd.R_slice HO526.out; subst eo58) | ((with_reducible refine gate_callee (f := 81) rfl ?_); refine goesL_ (some 44) rfl rfl Try.func81 (by kernel_rfl) rfl #[.pointer (some ⟨g, 0, none⟩), .slice Ao58 y524.length co58] rfl qz2 ?_; (with_reducible refine (spec_l1Int.calls g s0_0 t508 t509 _ _ y524 t527 t528 t529 w0 _ ?side1 ?side2 ?side3 ?side4 ?side5 A46.out).mono ?_); (case side1 => exact qz4); (case side2 => exact qz1); (case side3 => repeat (first | exact (Kd.R_reads' HO526.out).2.2 | (with_reducible refine Kd.C_alloc ?_ _) | (with_reducible refine Kd.C_drewN ?_ _) | (with_reducible refine Kd.C_drew ?_))); (case side4 => exact (Kd.R_reads' HO526.out).2.1); (case side5 => exact far_slice (IsS113.own_ne HI0.out HO526.out (by decide))); rintro e w59 ⟨rfl, hi, hb, hk⟩; refine ⟨_, rfl, ?_⟩; replace HO503 := aM (Kd.R_mono (Kd.R_keep (IsS113.apart (show IsS113 w0 _ g s0_0 t508 t509 from qz4) (rr_ HO503.out) (by decide)) hk (fun _ h => h.2)) (fun _ h => h.1)); replace HO526 := aM (Kd.R_mono (Kd.R_keep (IsS113.apart (show IsS113 w0 _ g s0_0 t508 t509 from qz4) (rr_ HO526.out) (by decide)) hk (fun _ h => h.2)) (fun _ h => h.1)); replace HK := aM (KeepBut.trans qz3 hk (.inl rfl)); replace HB := aM (hb); replace HI0 := aM (hi); (try clear hb hk hi); have p49 : 0 ≤ (t504 : Int) := dt_; have q49 : (t504 : Int) < ((y501.length : Int) : Int) := dt_; obtain ⟨go49, co49, eo49, gb49, gl49, cl49, HG49⟩ := Kd.R_form HO503.out (by omega); (first | cases eo49 | (injection eo49 with ea_ en_ ec_; (first | subst ea_ | (injection ea_ with ea_; subst ea_)); subst ec_; clear en_)); have GB49 := aM gb49; have GG49 := aM HG49; clear gb49 gl49 HG49; obtain ⟨ce49, hcl49, hM49, hcc49, hfr49⟩ := Kd.R_elem HO503.out z37 (t504 : Int) p49 q49; obtain rfl := k37_openM hM49; have hx49_0 : w59.cell? ⟨go49, (t504 : Int).toNat * 5, none⟩ = some (.int .i64 ((rd_T37 y501 t504).f0)) := hcc49 0 _ rfl; have hx49_1 : w59.cell? ⟨go49, (t504 : Int).toNat * 5 + 1, none⟩ = some (.int .i64 ((rd_T37 y501 t504).f1)) := hcc49 1 _ rfl; have hx49_2 : w59.cell? ⟨go49, (t504 : Int).toNat * 5 + 2, none⟩ = some (.int .i64 ((rd_T37 y501 t504).f2)) := hcc49 2 _ rfl; have hx49_3 : w59.cell? ⟨go49, (t504 : Int).toNat * 5 + 3, none⟩ = some (.bool ((rd_T37 y501 t504).f3)) := hcc49 3 _ rfl; have hx49_4 : w59.cell? ⟨go49, (t504 : Int).toNat * 5 + 4, none⟩ = some (.int .i64 ((rd_T37 y501 t504).f4)) := hcc49 4 _ rfl; have hf49_0 : w59.frozen? ⟨go49, (t504 : Int).toNat * 5, none⟩ = false := hfr49 0; have hf49_1 : w59.frozen? ⟨go49, (t504 : Int).toNat * 5 + 1, none⟩ = false := hfr49 1; have hf49_2 : w59.frozen? ⟨go49, (t504 : Int).toNat * 5 + 2, none⟩ = false := hfr49 2; have hf49_3 : w59.frozen? ⟨go49, (t504 : Int).toNat * 5 + 3, none⟩ = false := hfr49 3; have hf49_4 : w59.frozen? ⟨go49, (t504 : Int).toNat * 5 + 4, none⟩ = false := hfr49 4; clear hcl49 hcc49 hfr49; (try clear hM49); replace p49 := eq_true p49; replace q49 := eq_true q49; have HX60 := aM (show Kd.R k37 37 w59 w.heap.size (fun _ => True) (.slice (some ⟨go49, 0, none⟩) y501.length co8) y501 from (rr_ HO503.out)); obtain ⟨ce60, hcl60, hM60, hcc60, hfr60⟩ := Kd.R_elem HX60.out z37 (t504 : Int) (dt_) (by have h_ : (t504 : Int) < ((y501.length : Int) : Int) := dt_; first | exact h_ | (have e_ := (Kd.R_reads' HO503.out).1; omega) | simpa using h_); obtain rfl := k37_openM hM60; have HP60 := Kd.R_seg HX60.out (t504 : Int) (dt_) (by have h_ : (t504 : Int) < ((y501.length : Int) : Int) := dt_; first | exact h_ | (have e_ := (Kd.R_reads' HO503.out).1; omega) | simpa using h_) (seg := [.int .i64 t527]) (j := 0) hcl60 hcc60 (show 1 ≤ 5 from by decide) (x' := (⟨t527, (rd_T37 y501 t504).f1, (rd_T37 y501 t504).f2, (rd_T37 y501 t504).f3, (rd_T37 y501 t504).f4⟩ : S37)) (k37_mkM _ _ _ (⟨t527, (rd_T37 y501 t504).f1, (rd_T37 y501 t504).f2, (rd_T37 y501 t504).f3, (rd_T37 y501 t504).f4⟩ : S37) ) (fun _ hk => hk); have hx60_0 := hcc60 0 _ rfl; (try simp only [show (k37).sz = 5 from rfl, Nat.mul_one, Nat.add_zero] at hx60_0); have hf60_0 := hfr60 0; (try simp only [show (k37).sz = 5 from rfl, Nat.mul_one, Nat.add_zero] at hf60_0); clear hcl60 hcc60 hfr60; (try clear hM60)) | ((with_reducible refine gate_store (t := 3) (p := 46) rfl ?_); refine store_event (t := 3) (p := 46) (v := ?vo_w61) (w1 := (w59.setCell ⟨go49, (t504 : Int).toNat * 5, none⟩ (.int .i64 t527))) ?hg ?ho ?hn ?hr ?_; (case ho => rfl); (case hg => rfl); (case hn => rfl); (case hr => exact qz9); intro w61 hw; have hg : w59.grownBy w61 (some go49) := (by rw [hw]; exact HP60.2); have hp_ : Kd.R k37 37 w61 w.heap.size (fun _ => True) (.slice (some ⟨go49, 0, none⟩) y501.length co8) y530 := (by rw [hw, Ny530.out]; exact HP60.1); clear HP60; replace HI0 := aM (IsS113.grown qz4 hg (IsS113.own_ne HI0.out HO503.out (by decide))); replace HO526 := aM (Kd.R_over' (v := (.slice (some ⟨go49, 0, none⟩) y501.length co8)) (rr_ HO526.out) (Kd.R_typed HO503.out) (by decide) hg); replace HB := aM ((by rw [hw]; exact below_set (HB.out) (Nat.le_trans HL.out GB49.out) : Below w0.heap.size w0 w61)); replace HK := aM (KeepBut.trans qz3 (KeepBut.of_grown hg g) (Kd.R_base2 HO503.out)); replace HO503 := aM (hp_); clear hg hw hp_))
 go_ret
 exact ⟨_, qzw, by (with_reducible repeat (first | apply Kd.R_alloc | apply Kd.R_drewN | apply Kd.R_drew)); exact HO503.out, qz4, qz1, qz3⟩
 }
 {
 go_upto_if 47 with (fail)
 replace H := iQ_ H
 rcases H with ⟨c62b0, c62b1, H⟩ | ⟨c62, c62b0, c62b1, H⟩
 {
 obtain ⟨y531, hy531⟩ : ∃ y_ : List Int, y_ = (([(-1), 1000000, 1000001] : List Int)) := ⟨_, rfl⟩
 replace H : ((spec_l1Int.f s0_0 t508 t509 y531).bind fun bt534 => (if 0 ≤ t504 then (if t504 < (y501.length : Int) then (some ((y501.set (t504 : Int).toNat (⟨(rd_T37 y501 t504).f0, (rd_T37 y501 t504).f1, (rd_T37 y501 t504).f2, (rd_T37 y501 t504).f3, bt534.1⟩ : S37)), bt534.2.1, bt534.2.2)) else (none)) else (none))) = some (r1, r2, r3) := by first | (rw [hy531]; exact H) | exact H
 have Ny531 := aM hy531
 clear hy531
 replace H := Option.bind_eq_some_iff.mp H
 obtain ⟨⟨t534, t535, t536⟩, A630, H⟩ := H
 try dsimp only at H
 have A63 := aM A630
 clear A630
 replace H := iD_ H
 obtain ⟨c64b0, H⟩ := H
 replace H := iD_ H
 obtain ⟨c65b0, H⟩ := H
 obtain ⟨y537, hy537⟩ : ∃ y_ : List (S37), y_ = (y501.set (t504 : Int).toNat (⟨(rd_T37 y501 t504).f0, (rd_T37 y501 t504).f1, (rd_T37 y501 t504).f2, (rd_T37 y501 t504).f3, t534⟩ : S37)) := ⟨_, rfl⟩
 replace H : (some (y537, t535, t536)) = some (r1, r2, r3) := by first | (rw [hy537]; exact H) | exact H
 have Ny537 := aM hy537
 clear hy537
 simp only [Option.some.injEq, Prod.mk.injEq] at H
 obtain ⟨rfl, rfl, rfl⟩ := H
 go_wp2_with (first | ((with_reducible refine gate_dst (N := 52) rfl ?_); refine Kd.R_lit (Kd.int .i64) _ 3 ?hg (N := 52) ?hd (xs := ([(-1), 1000000, 1000001] : List Int)) (inner := [.int .i64 (-1), .int .i64 1000000, .int .i64 1000001]) (ok := fun _ => True) (okp := fun _ => True) ?hr ?hp (fun _ hk => hk) trivial (Below.refl _ _) (Nat.le_refl _) (by simp) ?_; (case hd => rfl); (case hg => rfl); (case hr => exact qz9); (case hp => exact (Reps.one (show Kd.M (Kd.int .i64) _ _ _ (-1) [.int .i64 (-1)] from rfl) (Reps.one (show Kd.M (Kd.int .i64) _ _ _ 1000000 [.int .i64 1000000] from rfl) (Reps.one (show Kd.M (Kd.int .i64) _ _ _ 1000001 [.int .i64 1000001] from rfl) (Reps.none _ _))))); intro v532 w73 ho74 hb hg_ hnew_; clear hg_ hnew_; (first | rw [← Ny531.out] at ho74 | (simp only [Int.reduceToNat] at ho74; rw [← Ny531.out] at ho74)); replace HO503 := aM (Kd.R_below (rr_ HO503.out) hb); have HO533 := aM (Kd.R_lower ho74 (keep_size (w := w) (g := g) (row := none) qz3)); replace HK := aM (KeepBut.trans qz3 (KeepBut.of_below hb g none) (.inl rfl)); replace HB := bS_ hb; replace HI0 := aM (IsS113.below qz4 hb); clear hb ho74; obtain ⟨Ao75, co75, eo75⟩ := Kd.R_slice HO533.out; subst eo75) | ((with_reducible refine gate_callee (f := 81) rfl ?_); refine goesL_ (some 53) rfl rfl Try.func81 (by kernel_rfl) rfl #[.pointer (some ⟨g, 0, none⟩), .slice Ao75 y531.length co75] rfl qz2 ?_; (with_reducible refine (spec_l1Int.calls g s0_0 t508 t509 _ _ y531 t534 t535 t536 w0 _ ?side1 ?side2 ?side3 ?side4 ?side5 A63.out).mono ?_); (case side1 => exact qz4); (case side2 => exact qz1); (case side3 => repeat (first | exact (Kd.R_reads' HO533.out).2.2 | (with_reducible refine Kd.C_alloc ?_ _) | (with_reducible refine Kd.C_drewN ?_ _) | (with_reducible refine Kd.C_drew ?_))); (case side4 => exact (Kd.R_reads' HO533.out).2.1); (case side5 => exact far_slice (IsS113.own_ne HI0.out HO533.out (by decide))); rintro e w76 ⟨rfl, hi, hb, hk⟩; refine ⟨_, rfl, ?_⟩; replace HO503 := aM (Kd.R_mono (Kd.R_keep (IsS113.apart (show IsS113 w0 _ g s0_0 t508 t509 from qz4) (rr_ HO503.out) (by decide)) hk (fun _ h => h.2)) (fun _ h => h.1)); replace HO533 := aM (Kd.R_mono (Kd.R_keep (IsS113.apart (show IsS113 w0 _ g s0_0 t508 t509 from qz4) (rr_ HO533.out) (by decide)) hk (fun _ h => h.2)) (fun _ h => h.1)); replace HK := aM (KeepBut.trans qz3 hk (.inl rfl)); replace HB := aM (hb); replace HI0 := aM (hi); (try clear hb hk hi); have p66 : 0 ≤ (t504 : Int) := dt_; have q66 : (t504 : Int) < ((y501.length : Int) : Int) := dt_; obtain ⟨go66, co66, eo66, gb66, gl66, cl66, HG66⟩ := Kd.R_form HO503.out (by omega); (first | cases eo66 | (injection eo66 with ea_ en_ ec_; (first | subst ea_ | (injection ea_ with ea_; subst ea_)); subst ec_; clear en_)); have GB66 := aM gb66; have GG66 := aM HG66; clear gb66 gl66 HG66; obtain ⟨ce66, hcl66, hM66, hcc66, hfr66⟩ := Kd.R_elem HO503.out z37 (t504 : Int) p66 q66; obtain rfl := k37_openM hM66; have hx66_0 : w76.cell? ⟨go66, (t504 : Int).toNat * 5, none⟩ = some (.int .i64 ((rd_T37 y501 t504).f0)) := hcc66 0 _ rfl; have hx66_1 : w76.cell? ⟨go66, (t504 : Int).toNat * 5 + 1, none⟩ = some (.int .i64 ((rd_T37 y501 t504).f1)) := hcc66 1 _ rfl; have hx66_2 : w76.cell? ⟨go66, (t504 : Int).toNat * 5 + 2, none⟩ = some (.int .i64 ((rd_T37 y501 t504).f2)) := hcc66 2 _ rfl; have hx66_3 : w76.cell? ⟨go66, (t504 : Int).toNat * 5 + 3, none⟩ = some (.bool ((rd_T37 y501 t504).f3)) := hcc66 3 _ rfl; have hx66_4 : w76.cell? ⟨go66, (t504 : Int).toNat * 5 + 4, none⟩ = some (.int .i64 ((rd_T37 y501 t504).f4)) := hcc66 4 _ rfl; have hf66_0 : w76.frozen? ⟨go66, (t504 : Int).toNat * 5, none⟩ = false := hfr66 0; have hf66_1 : w76.frozen? ⟨go66, (t504 : Int).toNat * 5 + 1, none⟩ = false := hfr66 1; have hf66_2 : w76.frozen? ⟨go66, (t504 : Int).toNat * 5 + 2, none⟩ = false := hfr66 2; have hf66_3 : w76.frozen? ⟨go66, (t504 : Int).toNat * 5 + 3, none⟩ = false := hfr66 3; have hf66_4 : w76.frozen? ⟨go66, (t504 : Int).toNat * 5 + 4, none⟩ = false := hfr66 4; clear hcl66 hcc66 hfr66; (try clear hM66); replace p66 := eq_true p66; replace q66 := eq_true q66; have HX77 := aM (show Kd.R k37 37 w76 w.heap.size (fun _ => True) (.slice (some ⟨go66, 0, none⟩) y501.length co8) y501 from (rr_ HO503.out)); obtain ⟨ce77, hcl77, hM77, hcc77, hfr77⟩ := Kd.R_elem HX77.out z37 (t504 : Int) (dt_) (by have h_ : (t504 : Int) < ((y501.length : Int) : Int) := dt_; first | exact h_ | (have e_ := (Kd.R_reads' HO503.out).1; omega) | simpa using h_); obtain rfl := k37_openM hM77; have HP77 := Kd.R_seg HX77.out (t504 : Int) (dt_) (by have h_ : (t504 : Int) < ((y501.length : Int) : Int) := dt_; first | exact h_ | (have e_ := (Kd.R_reads' HO503.out).1; omega) | simpa using h_) (seg := [.int .i64 t534]) (j := 4) hcl77 hcc77 (show 5 ≤ 5 from by decide) (x' := (⟨(rd_T37 y501 t504).f0, (rd_T37 y501 t504).f1, (rd_T37 y501 t504).f2, (rd_T37 y501 t504).f3, t534⟩ : S37)) (k37_mkM _ _ _ (⟨(rd_T37 y501 t504).f0, (rd_T37 y501 t504).f1, (rd_T37 y501 t504).f2, (rd_T37 y501 t504).f3, t534⟩ : S37) ) (fun _ hk => hk); have hx77_4 := hcc77 4 _ rfl; (try simp only [show (k37).sz = 5 from rfl, Nat.mul_one, Nat.add_zero] at hx77_4); have hf77_4 := hfr77 4; (try simp only [show (k37).sz = 5 from rfl, Nat.mul_one, Nat.add_zero] at hf77_4); clear hcl77 hcc77 hfr77; (try clear hM77)) | ((with_reducible refine gate_store (t := 3) (p := 55) rfl ?_); refine store_event (t := 3) (p := 55) (v := ?vo_w78) (w1 := (w76.setCell ⟨go66, (t504 : Int).toNat * 5 + 4, none⟩ (.int .i64 t534))) ?hg ?ho ?hn ?hr ?_; (case ho => rfl); (case hg => rfl); (case hn => rfl); (case hr => exact qz9); intro w78 hw; have hg : w76.grownBy w78 (some go66) := (by rw [hw]; exact HP77.2); have hp_ : Kd.R k37 37 w78 w.heap.size (fun _ => True) (.slice (some ⟨go66, 0, none⟩) y501.length co8) y537 := (by rw [hw, Ny537.out]; exact HP77.1); clear HP77; replace HI0 := aM (IsS113.grown qz4 hg (IsS113.own_ne HI0.out HO503.out (by decide))); replace HO533 := aM (Kd.R_over' (v := (.slice (some ⟨go66, 0, none⟩) y501.length co8)) (rr_ HO533.out) (Kd.R_typed HO503.out) (by decide) hg); replace HB := aM ((by rw [hw]; exact below_set (HB.out) (Nat.le_trans HL.out GB66.out) : Below w0.heap.size w0 w78)); replace HK := aM (KeepBut.trans qz3 (KeepBut.of_grown hg g) (Kd.R_base2 HO503.out)); replace HO503 := aM (hp_); clear hg hw hp_))
 go_ret
 exact ⟨_, qzw, by (with_reducible repeat (first | apply Kd.R_alloc | apply Kd.R_drewN | apply Kd.R_drew)); exact HO503.out, qz4, qz1, qz3⟩
 }
 {
 simp only [Option.some.injEq, Prod.mk.injEq] at H
 obtain ⟨rfl, rfl, rfl⟩ := H
 go_wp2
 go_ret
 exact ⟨_, qzw, by (with_reducible repeat (first | apply Kd.R_alloc | apply Kd.R_drewN | apply Kd.R_drew)); exact HO503.out, qz4, qz1, qz3⟩
 }
 }
 }
 }
 }
/-! ### spec_l7DrawAny: function 58 -/
def spec_l7DrawAny.f (k : Nat) (s0_0 : List Int) (s0_1 : Int) (s0_2 : Int) : Option (Int × Int × List Int × (List (S37)) × Int × Int) := (spec_l1Floor.f k s0_0 s0_1 s0_2).bind fun bt539 => ((spec_l1Int.f s0_0 bt539.2.2.2.1 bt539.2.2.2.2 (([3, 6, 12] : List Int))).bind fun bt550 => ((spec_l7Crew.f k s0_0 bt550.2.1 bt550.2.2 bt539.1 bt539.2.1 bt539.2.2.1 bt550.1).bind fun bt553 => ((spec_l1Once.f s0_0 bt553.2.1 bt553.2.2 8).bind fun bt558 => (if bt558.1 = true then ((spec_l7Bend.f s0_0 bt558.2.1 bt558.2.2 bt553.1).bind fun bt561 => (some (bt539.1, bt539.2.1, bt539.2.2.1, bt561.1, bt561.2.1, bt561.2.2))) else (some (bt539.1, bt539.2.1, bt539.2.2.1, bt553.1, bt558.2.1, bt558.2.2))))))
theorem spec_l7DrawAny.mono : ∀ a0 a1 a2 k, LeO (spec_l7DrawAny.f k a0 a1 a2) (spec_l7DrawAny.f (k + 1) a0 a1 a2) := by
 intro a0 a1 a2 k
 unfold spec_l7DrawAny.f
 have j0 := @spec_l1Floor.mono
 have j1 := @spec_l7Crew.mono
 exact qL
theorem spec_l7DrawAny.calls (k : Nat) (g : Nat) (s0_0 : List Int) (s0_1 : Int) (s0_2 : Int) (r1 : Int) (r2 : Int) (r3 : List Int) (r4 : List (S37)) (r5 : Int) (r6 : Int) (w0 w : World) (hI : IsS113 w0 w g s0_0 s0_1 s0_2) (hB : Below w0.heap.size w0 w) (h : spec_l7DrawAny.f k s0_0 s0_1 s0_2 = some (r1, r2, r3, r4, r5, r6)) :
  Calls Try.prog 58 #[.pointer (some ⟨g, 0, none⟩)] w fun e w' => ∃ v2_ v3_ : Value, e = .returned (.tuple #[.agg #[.int .i64 r1, .int .i64 r2, v2_], v3_]) ∧ Kd.R (Kd.int .i64) 3 w' w.heap.size (fun _ => True) v2_ r3 ∧ Kd.R k37 37 w' w.heap.size (fun _ => True) v3_ r4 ∧ IsS113 w0 w' g s0_0 r5 r6 ∧ Below w0.heap.size w0 w' ∧ KeepBut w w' g none := by
 have hu43 := Try.underlying43
 have HI0 := aM hI
 have HK := aM (KeepBut.refl w g none)
 have HL := aM hB.size
 clear hI
 have HW0 := aM hB.size
 have HB := aM hB
 clear hB
 unfold spec_l7DrawAny.f at h
 have H := h
 clear h
 replace H := Option.bind_eq_some_iff.mp H
 obtain ⟨⟨t539, t540, t541, t544, t545⟩, A20, H⟩ := H
 try dsimp only at H
 have A2 := aM A20
 clear A20
 obtain ⟨y547, hy547⟩ : ∃ y_ : List Int, y_ = (([3, 6, 12] : List Int)) := ⟨_, rfl⟩
 replace H : ((spec_l1Int.f s0_0 t544 t545 y547).bind fun bt550 => ((spec_l7Crew.f k s0_0 bt550.2.1 bt550.2.2 t539 t540 t541 bt550.1).bind fun bt553 => ((spec_l1Once.f s0_0 bt553.2.1 bt553.2.2 8).bind fun bt558 => (if bt558.1 = true then ((spec_l7Bend.f s0_0 bt558.2.1 bt558.2.2 bt553.1).bind fun bt561 => (some (t539, t540, t541, bt561.1, bt561.2.1, bt561.2.2))) else (some (t539, t540, t541, bt553.1, bt558.2.1, bt558.2.2)))))) = some (r1, r2, r3, r4, r5, r6) := by first | (rw [hy547]; exact H) | exact H
 have Ny547 := aM hy547
 clear hy547
 replace H := Option.bind_eq_some_iff.mp H
 obtain ⟨⟨t550, t551, t552⟩, A30, H⟩ := H
 try dsimp only at H
 have A3 := aM A30
 clear A30
 replace H := Option.bind_eq_some_iff.mp H
 obtain ⟨⟨t553, t556, t557⟩, A40, H⟩ := H
 try dsimp only at H
 have A4 := aM A40
 clear A40
 replace H := Option.bind_eq_some_iff.mp H
 obtain ⟨⟨t558, t559, t560⟩, A50, H⟩ := H
 try dsimp only at H
 have A5 := aM A50
 clear A50
 go_enter Try.func58, Try.ntmps58
 try go_wp2_with (first | ((with_reducible refine gate_dst (N := 2) rfl ?_); refine bx_ 2 #[.int .i64 0, .int .i64 0, .slice none 0 0] 43 ?_; intro gb538 hg w8 hbox hb; replace HB := bS_ hb; have BK538 := aM (hbox); have GW538 := aM (kz_ w g hg qz3); have GE538 := aM ((Nat.le_trans HW0.out (by rw [hg]; exact (keep_size (w := w) (g := g) (row := none) qz3) : w.heap.size ≤ gb538) : w0.heap.size ≤ gb538)); replace HK := aM (KeepBut.trans qz3 (KeepBut.of_below hb g none) (.inl rfl)); have NB0_538 := aM ((by rw [hg]; exact Nat.ne_of_lt (IsS113.lt (show IsS113 w0 _ g s0_0 s0_1 s0_2 from qz4)) : g ≠ gb538)); have NB538_0 := aM ((by rw [hg]; exact Nat.ne_of_gt (IsS113.lt (show IsS113 w0 _ g s0_0 s0_1 s0_2 from qz4)) : gb538 ≠ g)); replace HI0 := aM (IsS113.below qz4 hb); clear hb hbox hg) | ((with_reducible refine gate_callee (f := 84) rfl ?_); refine goesL_ (some 7) rfl rfl Try.func84 (by kernel_rfl) rfl #[.pointer (some ⟨g, 0, none⟩)] rfl qz2 ?_; (with_reducible refine (spec_l1Floor.calls k g s0_0 s0_1 s0_2 t539 t540 t541 t544 t545 w0 _ ?_ ?_ A2.out).mono ?_); exact qz4; exact qz1; rintro e w9 ⟨v542, rfl, ho0, hi, hb, hk⟩; refine ⟨_, rfl, ?_⟩; replace BK538 := aM (KeepBut.blk hk (bk_ BK538.out) NB538_0.out (by simp)); have HO543 := aM (Kd.R_lower ho0 (keep_size (w := w) (g := g) (row := none) qz3)); replace HK := aM (KeepBut.trans qz3 hk (.inl rfl)); replace HB := aM (hb); replace HI0 := aM (hi); (try clear hb hk hi ho0)) | ((with_reducible refine gate_dst (N := 4) rfl ?_); refine bx_ 4 #[.int .i64 0, .int .i64 0, .slice none 0 0] 43 ?_; intro gb546 hg w10 hbox hb; replace HO543 := aM (Kd.R_below (rr_ HO543.out) hb); replace HB := bS_ hb; have BK546 := aM (hbox); have GW546 := aM (kz_ w g hg qz3); have GE546 := aM ((Nat.le_trans HW0.out (by rw [hg]; exact (keep_size (w := w) (g := g) (row := none) qz3) : w.heap.size ≤ gb546) : w0.heap.size ≤ gb546)); replace HK := aM (KeepBut.trans qz3 (KeepBut.of_below hb g none) (.inl rfl)); obtain ⟨NB538_546, NB546_538⟩ := nb_ hg (bk_ BK538.out); replace BK538 := bB_ BK538 hb; have NB0_546 := aM ((by rw [hg]; exact Nat.ne_of_lt (IsS113.lt (show IsS113 w0 _ g s0_0 t544 t545 from qz4)) : g ≠ gb546)); have NB546_0 := aM ((by rw [hg]; exact Nat.ne_of_gt (IsS113.lt (show IsS113 w0 _ g s0_0 t544 t545 from qz4)) : gb546 ≠ g)); replace HI0 := aM (IsS113.below qz4 hb); clear hb hbox hg; have hnb11 := NB546_538.out; have hnc11 := NB538_546.out; have hnb12 := NB546_0.out; have hnc12 := NB0_546.out; obtain ⟨hcz13_0, hcz13_1, hcz13_2, hfz13_0, hfz13_1, hfz13_2⟩ := b6_ BK546.out; obtain ⟨Ao14, co14, eo14⟩ := Kd.R_slice HO543.out; subst eo14))
 generalize hq_ : (((w10.setCell ⟨gb546, 0, none⟩ (.int .i64 t539)).setCell ⟨gb546, 1, none⟩ (.int .i64 t540)).setCell ⟨gb546, 2, none⟩ (.slice Ao14 t541.length co14)) = w15
 replace HO543 : Aside0 (Kd.R (Kd.int .i64) 3 w15 w.heap.size (fun _ => True) (.slice Ao14 t541.length co14) t541) := ⟨by rw [← hq_]; exact (by (with_reducible repeat (first | apply Kd.R_alloc | apply Kd.R_drewN | apply Kd.R_drew)); exact Kd.R_mono (Kd.R_far (p := ⟨gb546, 2, none⟩) (Kd.R_far (p := ⟨gb546, 1, none⟩) (Kd.R_far (p := ⟨gb546, 0, none⟩) (Kd.R_types HO543.out BK546.out (by decide)) (fun _ hk => hk.2) (.int .i64 t539)) (fun _ hk => hk.2) (.int .i64 t540)) (fun _ hk => hk.2) (.slice Ao14 t541.length co14)) (fun _ hk => trivial))⟩
 replace BK538 := bqo_ hq_ BK538
 replace BK546 : Aside0 (w15.heap[gb546]? = some (.cells #[.int .i64 t539, .int .i64 t540, .slice Ao14 t541.length co14] 43 (0, 0))) := ⟨by rw [← hq_]; exact (by (with_reducible repeat (first | refine blk_drewN ?_ _ | refine blk_drew ?_ | refine blk_alloc ?_ _)); refine blk_put (cs := #[.int .i64 t539, .int .i64 t540, .slice none 0 0]) ?_ 2 _ rfl; (with_reducible repeat (first | refine blk_drewN ?_ _ | refine blk_drew ?_ | refine blk_alloc ?_ _)); refine blk_put (cs := #[.int .i64 t539, .int .i64 0, .slice none 0 0]) ?_ 1 _ rfl; (with_reducible repeat (first | refine blk_drewN ?_ _ | refine blk_drew ?_ | refine blk_alloc ?_ _)); refine blk_put (cs := #[.int .i64 0, .int .i64 0, .slice none 0 0]) ?_ 0 _ rfl; exact bk_ BK546.out)⟩
 replace HK : Aside0 (KeepBut w w15 g none) := ⟨by rw [← hq_]; exact qz3⟩
 replace HB : Aside0 (Below w0.heap.size w0 w15) := ⟨by rw [← hq_]; exact qz1⟩
 replace HI0 : Aside0 (IsS113 w0 w15 g s0_0 t544 t545) := ⟨by rw [← hq_]; exact qz4⟩
 clear hq_
 replace HO543 := aM (Kd.R_drew HO543.out)
 replace BK538 := aM (blk_drew BK538.out)
 replace BK546 := aM (blk_drew BK546.out)
 replace HI0 := aM (IsS113.drew HI0.out)
 replace HK := aM (keep_drew HK.out)
 replace HB := aM (below_drew1 HB.out)
 refine start_ (n := 7) (S := fun w' => w'.cell? ⟨gb546, 0, none⟩ = some (.int .i64 t539) ∧ w'.cell? ⟨gb546, 1, none⟩ = some (.int .i64 t540) ∧ w'.cell? ⟨gb546, 2, none⟩ = some (.slice Ao14 t541.length co14)) (ds := []) #[false, false, false, false, false, false, false] (by kernel_rfl) rfl rfl ⟨(blk_cell BK546.out 0).trans rfl, (blk_cell BK546.out 1).trans rfl, (blk_cell BK546.out 2).trans rfl⟩ (fun hHeld => ?_)
 generalize w15.drew = w16 at HO543 BK538 BK546 HI0 HK HB hHeld ⊢
 refine pure_ (i := 0) (N := some 8) (v := ?_) (a' := ?_) #[true, false, false, false, false, false, false] rfl rfl (by kernel_rfl) qzd (Or.inl ⟨by rfl, ?_⟩) ?_ ?_
 rotate_left
 {
 intro w'
 go_simp
 with_reducible rfl
 }
 rotate_left
 {
 simp only [qzs]
 rfl
 }
 refine pure_ (i := 2) (N := some 10) (v := ?_) (a' := ?_) #[true, false, true, false, false, false, false] rfl rfl (by kernel_rfl) qzd (Or.inl ⟨by rfl, ?_⟩) ?_ ?_
 rotate_left
 {
 intro w'
 go_simp
 with_reducible rfl
 }
 rotate_left
 {
 simp only [qzs]
 rfl
 }
 refine take_ (i := 1) (N := some 9) (v := ?_) (a' := ?_) #[true, true, true, false, false, false, false] rfl rfl (by kernel_rfl) qzd (Or.inl ⟨by rfl, ?_⟩) hHeld ?_ ?_
 rotate_left
 {
 rintro w' ⟨s0, s1, s2⟩
 go_simp
 with_reducible rfl
 }
 rotate_left
 {
 simp only [qzs]
 rfl
 }
 refine one_ (i := 3) (N := some 11) #[true, true, true, true, false, false, false] rfl rfl (by kernel_rfl) (by decide) (fun K hK => ?_)
 refine Kd.R_lit_step (Kd.int .i64) _ 3 ?hg (N := 11) ?hd (xs := ([3, 6, 12] : List Int)) (inner := [.int .i64 3, .int .i64 6, .int .i64 12]) (ok := fun _ => True) (okp := fun _ => True) ?hr ?hp (fun _ hk => hk) trivial (Below.refl _ _) (Nat.le_refl _) (by simp) ?_; (case hd => rfl); (case hg => rfl); (case hr => exact qz9); (case hp => exact (Reps.one (show Kd.M (Kd.int .i64) _ _ _ 3 [.int .i64 3] from rfl) (Reps.one (show Kd.M (Kd.int .i64) _ _ _ 6 [.int .i64 6] from rfl) (Reps.one (show Kd.M (Kd.int .i64) _ _ _ 12 [.int .i64 12] from rfl) (Reps.none _ _)))))
 intro v548 w17 ho18 hb hg_ hnew_
 clear hg_ hnew_
 (first | rw [← Ny547.out] at ho18 | (simp only [Int.reduceToNat] at ho18; rw [← Ny547.out] at ho18))
 have HO549 := aM (Kd.R_lower (Kd.R_new' ho18 (Kd.R_lt (rr_ HO543.out))) (keep_size (w := w) (g := g) (row := none) qz3))
 replace HO543 := aM (Kd.R_elder' (rr_ HO543.out) (Kd.R_base ho18) hb)
 replace BK538 := bB_ BK538 hb
 replace BK546 := bB_ BK546 hb
 replace HK := aM (KeepBut.trans qz3 (KeepBut.of_below hb g none) (.inl rfl))
 replace HB := bS_ hb
 replace HI0 := aM (IsS113.below qz4 hb)
 clear hb ho18
 obtain ⟨Ao19, co19, eo19⟩ := Kd.R_slice HO549.out
 (first | subst eo19 | (injection eo19 with f1_ f2_ f3_; have f4_ := f1_.symm; have f5_ := f3_.symm; clear f1_ f2_ f3_; subst f4_; subst f5_))
 refine hK.out _ _ ⟨(blk_cell BK546.out 0).trans rfl, (blk_cell BK546.out 1).trans rfl, (blk_cell BK546.out 2).trans rfl⟩ (fun hHeld => ?_)
 clear hK K
 refine nm_ 11 ?_
 refine one_ (i := 4) (N := some 12) #[true, true, true, true, true, false, false] rfl rfl (by kernel_rfl) (by decide) (fun K hK => ?_)
 refine goes_ Try.func81 (by kernel_rfl) rfl #[.pointer (some ⟨g, 0, none⟩), .slice Ao19 y547.length co19] (by rfl) rfl rfl qz2 ?_
 with_reducible refine (spec_l1Int.calls g s0_0 t544 t545 _ _ y547 t550 t551 t552 w0 _ ?side1 ?side2 ?side3 ?side4 ?side5 A3.out).mono ?_
 (case side1 => exact qz4)
 (case side2 => exact qz1)
 (case side3 => repeat (first | exact (Kd.R_reads' HO549.out).2.2 | (with_reducible refine Kd.C_alloc ?_ _) | (with_reducible refine Kd.C_drewN ?_ _) | (with_reducible refine Kd.C_drew ?_)))
 (case side4 => exact (Kd.R_reads' HO549.out).2.1)
 (case side5 => exact far_slice (IsS113.own_ne HI0.out HO549.out (by decide)))
 rintro e w20 ⟨rfl, hi, hb, hk⟩
 refine ⟨_, rfl, ?_⟩
 replace BK538 := aM (KeepBut.blk hk (bk_ BK538.out) NB538_0.out (by simp))
 replace HO543 := aM (Kd.R_mono (Kd.R_keep (IsS113.apart (show IsS113 w0 _ g s0_0 t544 t545 from qz4) (rr_ HO543.out) (by decide)) hk (fun _ h => h.2)) (fun _ h => h.1))
 replace BK546 := aM (KeepBut.blk hk (bk_ BK546.out) NB546_0.out (by simp))
 replace HO549 := aM (Kd.R_mono (Kd.R_keep (IsS113.apart (show IsS113 w0 _ g s0_0 t544 t545 from qz4) (rr_ HO549.out) (by decide)) hk (fun _ h => h.2)) (fun _ h => h.1))
 replace HK := aM (KeepBut.trans qz3 hk (.inl rfl))
 replace HB := aM (hb)
 replace HI0 := aM (hi)
 (try clear hb)
 (try clear hb2)
 (try clear hk)
 (try clear hi)
 refine hK.out _ _ ⟨(blk_cell BK546.out 0).trans rfl, (blk_cell BK546.out 1).trans rfl, (blk_cell BK546.out 2).trans rfl⟩ (fun hHeld => ?_)
 clear hK K
 refine nm_ 12 ?_
 refine one_ (i := 5) (N := some 13) #[true, true, true, true, true, true, false] rfl rfl (by kernel_rfl) (by decide) (fun K hK => ?_)
 refine goes_ Try.func85 (by kernel_rfl) rfl #[.pointer (some ⟨g, 0, none⟩), .agg #[.int .i64 t539, .int .i64 t540, .slice Ao14 t541.length co14], .int .i64 t550] (by rfl) rfl rfl qz2 ?_
 with_reducible refine (spec_l7Crew.calls k g s0_0 t551 t552 t539 t540 _ _ t541 t550 t553 t556 t557 w0 _ ?side1 ?side2 ?side3 ?side4 ?side5 A4.out).mono ?_
 (case side1 => exact qz4)
 (case side2 => exact qz1)
 (case side3 => repeat (first | exact (Kd.R_reads' HO543.out).2.2 | (with_reducible refine Kd.C_alloc ?_ _) | (with_reducible refine Kd.C_drewN ?_ _) | (with_reducible refine Kd.C_drew ?_)))
 (case side4 => exact (Kd.R_reads' HO543.out).2.1)
 (case side5 => exact far_slice (IsS113.own_ne HI0.out HO543.out (by decide)))
 rintro e w21 ⟨v554, rfl, ho0, hi, hb, hk⟩
 refine ⟨_, rfl, ?_⟩
 replace BK538 := aM (KeepBut.blk hk (bk_ BK538.out) NB538_0.out (by simp))
 replace HO543 := aM (Kd.R_mono (Kd.R_keep (IsS113.apart (show IsS113 w0 _ g s0_0 t551 t552 from qz4) (rr_ HO543.out) (by decide)) hk (fun _ h => h.2)) (fun _ h => h.1))
 replace BK546 := aM (KeepBut.blk hk (bk_ BK546.out) NB546_0.out (by simp))
 replace HO549 := aM (Kd.R_mono (Kd.R_keep (IsS113.apart (show IsS113 w0 _ g s0_0 t551 t552 from qz4) (rr_ HO549.out) (by decide)) hk (fun _ h => h.2)) (fun _ h => h.1))
 have HO555 := aM (Kd.R_lower ho0 (keep_size (w := w) (g := g) (row := none) qz3))
 replace HK := aM (KeepBut.trans qz3 hk (.inl rfl))
 replace HB := aM (hb)
 replace HI0 := aM (hi)
 (try clear hb)
 (try clear hb2)
 (try clear hk)
 (try clear hi)
 (try clear ho0)
 refine hK.out _ _ ⟨(blk_cell BK546.out 0).trans rfl, (blk_cell BK546.out 1).trans rfl, (blk_cell BK546.out 2).trans rfl⟩ (fun hHeld => ?_)
 clear hK K
 refine nm_ 13 ?_
 refine pure_ (i := 6) (N := some 5) (v := ?_) (a' := ?_) #[true, true, true, true, true, true, true] rfl rfl (by kernel_rfl) qzd (Or.inl ⟨by rfl, ?_⟩) ?_ ?_
 rotate_left
 {
 intro w'
 go_simp
 with_reducible rfl
 }
 rotate_left
 {
 simp only [qzs]
 rfl
 }
 refine done_ (by kernel_rfl) ?_
 go_upto_if 15 with (first | ((with_reducible refine gate_callee (f := 80) rfl ?_); refine goesL_ (some 15) rfl rfl Try.func80 (by kernel_rfl) rfl #[.pointer (some ⟨g, 0, none⟩), .int .i64 8] rfl qz2 ?_; (with_reducible refine (spec_l1Once.calls g s0_0 t556 t557 8 t558 t559 t560 w0 _ ?_ ?_ A5.out).mono ?_); exact qz4; exact qz1; rintro e w22 ⟨rfl, hi, hb, hk⟩; refine ⟨_, rfl, ?_⟩; replace BK538 := aM (KeepBut.blk hk (bk_ BK538.out) NB538_0.out (by simp)); replace HO543 := aM (Kd.R_mono (Kd.R_keep (IsS113.apart (show IsS113 w0 _ g s0_0 t556 t557 from qz4) (rr_ HO543.out) (by decide)) hk (fun _ h => h.2)) (fun _ h => h.1)); replace BK546 := aM (KeepBut.blk hk (bk_ BK546.out) NB546_0.out (by simp)); replace HO549 := aM (Kd.R_mono (Kd.R_keep (IsS113.apart (show IsS113 w0 _ g s0_0 t556 t557 from qz4) (rr_ HO549.out) (by decide)) hk (fun _ h => h.2)) (fun _ h => h.1)); replace HO555 := aM (Kd.R_mono (Kd.R_keep (IsS113.apart (show IsS113 w0 _ g s0_0 t556 t557 from qz4) (rr_ HO555.out) (by decide)) hk (fun _ h => h.2)) (fun _ h => h.1)); replace HK := aM (KeepBut.trans qz3 hk (.inl rfl)); replace HB := aM (hb); replace HI0 := aM (hi); (try clear hb hk hi)))
 replace H := iB_ H
 rcases H with ⟨rfl, H⟩ | ⟨rfl, H⟩
 {
 replace H := Option.bind_eq_some_iff.mp H
 obtain ⟨⟨t561, t564, t565⟩, A70, H⟩ := H
 try dsimp only at H
 have A7 := aM A70
 clear A70
 simp only [Option.some.injEq, Prod.mk.injEq] at H
 obtain ⟨rfl, rfl, rfl, rfl, rfl, rfl⟩ := H
 obtain ⟨Ao23, co23, eo23⟩ := Kd.R_slice HO555.out
 subst eo23
 go_wp2_with (first | ((with_reducible refine gate_callee (f := 97) rfl ?_); refine goesL_ (some 18) rfl rfl Try.func97 (by kernel_rfl) rfl #[.pointer (some ⟨g, 0, none⟩), .slice Ao23 t553.length co23] rfl qz2 ?_; (with_reducible refine (spec_l7Bend.calls g s0_0 t559 t560 _ _ t553 t561 t564 t565 w0 _ ?_ ?_ ?_ ?_ A7.out).mono ?_); exact qz4; exact qz1; exact Kd.C_foot_own (IsS113.apart (show IsS113 w0 _ g s0_0 t559 t560 from qz4) (rr_ HO555.out) (by decide)) (fun _ h_ => h_.2); exact (Kd.R_reads' HO555.out).2.1; rintro e w24 ⟨v562, rfl, ho0, hi, hb, hk⟩; refine ⟨_, rfl, ?_⟩; replace BK538 := aM (KeepBut.blk hk (bk_ BK538.out) NB538_0.out (by simp)); replace HO543 := aM (Kd.R_mono (Kd.R_keep (IsS113.apart (show IsS113 w0 _ g s0_0 t559 t560 from qz4) (rr_ HO543.out) (by decide)) hk (fun _ h => h.2)) (fun _ h => h.1)); replace BK546 := aM (KeepBut.blk hk (bk_ BK546.out) NB546_0.out (by simp)); replace HO549 := aM (Kd.R_mono (Kd.R_keep (IsS113.apart (show IsS113 w0 _ g s0_0 t559 t560 from qz4) (rr_ HO549.out) (by decide)) hk (fun _ h => h.2)) (fun _ h => h.1)); have HO563 := aM (Kd.R_lower (Kd.R_new' ho0 (Kd.R_lt (rr_ HO555.out))) (keep_size (w := w) (g := g) (row := none) qz3)); replace HO555 := aM (Kd.R_mono (Kd.R_told (Kd.R_oldK (IsS113.apart (show IsS113 w0 _ g s0_0 t559 t560 from qz4) (rr_ HO555.out) (by decide)) hk) (Kd.R_base ho0)) (fun _ h_ => h_.1)); replace HK := aM (KeepBut.trans qz3 hk (.inl rfl)); replace HB := aM (hb); replace HI0 := aM (hi); (try clear hb hk hi ho0); obtain ⟨hcz25_0, hcz25_1, hcz25_2, hfz25_0, hfz25_1, hfz25_2⟩ := b6_ BK546.out; have hnb26 := NB538_0.out; have hnc26 := NB0_538.out; obtain ⟨hcz27_0, hcz27_1, hcz27_2, hfz27_0, hfz27_1, hfz27_2⟩ := b6_ BK538.out))
 refine bodyPost_ret (results_ct rfl _ _ gb538 43 #[.int .i64 t539, .int .i64 t540, .slice Ao14 t541.length co14] (0, 0) _ rfl (by (with_reducible repeat (first | refine blk_drewN ?_ _ | refine blk_drew ?_ | refine blk_alloc ?_ _)); refine blk_put (cs := #[.int .i64 t539, .int .i64 t540, .slice none 0 0]) ?_ 2 _ rfl; (with_reducible repeat (first | refine blk_drewN ?_ _ | refine blk_drew ?_ | refine blk_alloc ?_ _)); refine blk_put (cs := #[.int .i64 t539, .int .i64 0, .slice none 0 0]) ?_ 1 _ rfl; (with_reducible repeat (first | refine blk_drewN ?_ _ | refine blk_drew ?_ | refine blk_alloc ?_ _)); refine blk_put (cs := #[.int .i64 0, .int .i64 0, .slice none 0 0]) ?_ 0 _ rfl; exact bk_ BK538.out) Try.underlying43 rfl (by kernel_rfl)) rfl ?_
 exact ⟨_, _, qzw, by (with_reducible repeat (first | apply Kd.R_alloc | apply Kd.R_drewN | apply Kd.R_drew)); exact Kd.R_mono (Kd.R_far (p := ⟨gb538, 2, none⟩) (Kd.R_far (p := ⟨gb538, 1, none⟩) (Kd.R_far (p := ⟨gb538, 0, none⟩) (Kd.R_types HO543.out BK538.out (by decide)) (fun _ hk => hk.2) (.int .i64 t539)) (fun _ hk => hk.2) (.int .i64 t540)) (fun _ hk => hk.2) (.slice Ao14 t541.length co14)) (fun _ hk => trivial), by (with_reducible repeat (first | apply Kd.R_alloc | apply Kd.R_drewN | apply Kd.R_drew)); exact Kd.R_mono (Kd.R_far (p := ⟨gb538, 2, none⟩) (Kd.R_far (p := ⟨gb538, 1, none⟩) (Kd.R_far (p := ⟨gb538, 0, none⟩) (Kd.R_types HO563.out BK538.out (by decide)) (fun _ hk => hk.2) (.int .i64 t539)) (fun _ hk => hk.2) (.int .i64 t540)) (fun _ hk => hk.2) (.slice Ao14 t541.length co14)) (fun _ hk => trivial), qz4, qz1, qz3⟩
 }
 {
 simp only [Option.some.injEq, Prod.mk.injEq] at H
 obtain ⟨rfl, rfl, rfl, rfl, rfl, rfl⟩ := H
 obtain ⟨hcz43_0, hcz43_1, hcz43_2, hfz43_0, hfz43_1, hfz43_2⟩ := b6_ BK546.out
 have hnb44 := NB538_0.out
 have hnc44 := NB0_538.out
 obtain ⟨hcz45_0, hcz45_1, hcz45_2, hfz45_0, hfz45_1, hfz45_2⟩ := b6_ BK538.out
 go_wp2
 refine bodyPost_ret (results_ct rfl _ _ gb538 43 #[.int .i64 t539, .int .i64 t540, .slice Ao14 t541.length co14] (0, 0) _ rfl (by (with_reducible repeat (first | refine blk_drewN ?_ _ | refine blk_drew ?_ | refine blk_alloc ?_ _)); refine blk_put (cs := #[.int .i64 t539, .int .i64 t540, .slice none 0 0]) ?_ 2 _ rfl; (with_reducible repeat (first | refine blk_drewN ?_ _ | refine blk_drew ?_ | refine blk_alloc ?_ _)); refine blk_put (cs := #[.int .i64 t539, .int .i64 0, .slice none 0 0]) ?_ 1 _ rfl; (with_reducible repeat (first | refine blk_drewN ?_ _ | refine blk_drew ?_ | refine blk_alloc ?_ _)); refine blk_put (cs := #[.int .i64 0, .int .i64 0, .slice none 0 0]) ?_ 0 _ rfl; exact bk_ BK538.out) Try.underlying43 rfl (by kernel_rfl)) rfl ?_
 exact ⟨_, _, qzw, by (with_reducible repeat (first | apply Kd.R_alloc | apply Kd.R_drewN | apply Kd.R_drew)); exact Kd.R_mono (Kd.R_far (p := ⟨gb538, 2, none⟩) (Kd.R_far (p := ⟨gb538, 1, none⟩) (Kd.R_far (p := ⟨gb538, 0, none⟩) (Kd.R_types HO543.out BK538.out (by decide)) (fun _ hk => hk.2) (.int .i64 t539)) (fun _ hk => hk.2) (.int .i64 t540)) (fun _ hk => hk.2) (.slice Ao14 t541.length co14)) (fun _ hk => trivial), by (with_reducible repeat (first | apply Kd.R_alloc | apply Kd.R_drewN | apply Kd.R_drew)); exact Kd.R_mono (Kd.R_far (p := ⟨gb538, 2, none⟩) (Kd.R_far (p := ⟨gb538, 1, none⟩) (Kd.R_far (p := ⟨gb538, 0, none⟩) (Kd.R_types HO555.out BK538.out (by decide)) (fun _ hk => hk.2) (.int .i64 t539)) (fun _ hk => hk.2) (.int .i64 t540)) (fun _ hk => hk.2) (.slice Ao14 t541.length co14)) (fun _ hk => trivial), qz4, qz1, qz3⟩
 }
end Go.Proofs.Ytankmdbbgepmbaa.PFnClashes
