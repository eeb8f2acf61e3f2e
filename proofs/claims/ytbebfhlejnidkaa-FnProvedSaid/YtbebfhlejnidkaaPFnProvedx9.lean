-- Made by a program of this session out of the translation. Lean checks it.
import Derived.Test.YtbebfhlejnidkaaPFnProvedx8
namespace Go.Proofs.Ytbebfhlejnidkaa.PFnProved
open Go.RowKit Go.Proofs.YtbebfhlejnidkaaW.PrintWords Go.Proofs.YtbebfhlejnidkaaW.PrintLast Go.Proofs.YtbebfhlejnidkaaW.PrintMore
attribute [local go_sem] max2_int min2_int max_two min_two max_three min_three max_four min_four   -- for this text's walks alone
set_option linter.unusedVariables false
set_option linter.unusedSimpArgs false

/-! ### spec_l4DrawAny: function 45 -/
def spec_l4DrawAny.f (k : Nat) (s0_0 : List Int) (s0_1 : Int) (s0_2 : Int) : Option ((List (List Int)) × Int × Int) := (spec_l4Draw.f k s0_0 s0_1 s0_2 6).bind fun bt301 => (if (bt301.1.length : Int) = 0 then (some (bt301.1, bt301.2.1, bt301.2.2)) else ((spec_l1Below.f s0_0 bt301.2.1 bt301.2.2 14).bind fun bt306 => (if bt306.1 = 0 then (if 0 < (bt301.1.length : Int) then (if (rd_L1 bt301.1 0).length < 17592186044416 then (some ((bt301.1.set (0 : Int).toNat ((rd_L1 bt301.1 0) ++ [1])), bt306.2.1, bt306.2.2)) else (none)) else (none)) else (if bt306.1 = 1 then (if 0 < (bt301.1.length : Int) then (if ((rd_L1 bt301.1 0).length : Int) > 0 then ((spec_l1Int.f s0_0 bt306.2.1 bt306.2.2 (([(-1), 100001] : List Int))).bind fun bt319 => (if 0 < ((rd_L1 bt301.1 0).length : Int) then (some ((bt301.1.set (0 : Int).toNat ((rd_L1 bt301.1 0).set (0 : Int).toNat bt319.1)), bt319.2.1, bt319.2.2)) else (none))) else (some (bt301.1, bt306.2.1, bt306.2.2))) else (none)) else (if bt306.1 = 2 then (if bt301.1.length < 5864062014805 then (some ((bt301.1 ++ [(([1] : List Int))]), bt306.2.1, bt306.2.2)) else (none)) else (some (bt301.1, bt306.2.1, bt306.2.2)))))))
theorem spec_l4DrawAny.mono : ∀ a0 a1 a2 k, LeO (spec_l4DrawAny.f k a0 a1 a2) (spec_l4DrawAny.f (k + 1) a0 a1 a2) := by
 intro a0 a1 a2 k
 unfold spec_l4DrawAny.f
 have j0 := @spec_l4Draw.mono
 exact qL
def spec_l4DrawAny.T9 : Bool × List (List Nat × List Nat) := (true, [([], []), ([0], [0]), ([1], [1]), ([], []), ([], []), ([3, 4], [3, 4]), ([2, 0, 1, 2, 3, 4, 5], [2]), ([6, 5, 5, 0, 1, 2, 3, 4, 5], [5, 6])])
def spec_l4DrawAny.B9 : List Nat := [0, 1, 3, 0, 0, 24, 63, 127]
theorem spec_l4DrawAny.tab9 : rtab .any (opsOf Try.f45 9) = spec_l4DrawAny.T9 := by kernel_rfl
theorem spec_l4DrawAny.bits9 : waitsOk spec_l4DrawAny.T9.2 spec_l4DrawAny.B9 = true := by kernel_rfl
set_option maxHeartbeats 8000000 in
set_option maxRecDepth 100000 in
theorem spec_l4DrawAny.calls (k : Nat) (g : Nat) (s0_0 : List Int) (s0_1 : Int) (s0_2 : Int) (r1 : List (List Int)) (r2 : Int) (r3 : Int) (w0 w : World) (hI : IsS77 w0 w g s0_0 s0_1 s0_2) (hB : Below w0.heap.size w0 w) (h : spec_l4DrawAny.f k s0_0 s0_1 s0_2 = some (r1, r2, r3)) :
  Calls Try.prog 45 #[.pointer (some ⟨g, 0, none⟩)] w fun e w' => ∃ v0_ : Value, e = .returned (v0_) ∧ Kd.S (Kd.slice 3 (Kd.int .i64)) 24 w' w.heap.size (fun _ => True) v0_ r1 ∧ IsS77 w0 w' g s0_0 r2 r3 ∧ Below w0.heap.size w0 w' ∧ KeepBut w w' g none := by
 have HI0 := aM hI
 have HK := aM (KeepBut.refl w g none)
 have HL := aM hB.size
 clear hI
 have HW0 := aM hB.size
 have HB := aM hB
 clear hB
 have H : ((spec_l4Draw.f k s0_0 s0_1 s0_2 6).bind fun bt301 => (if (bt301.1.length : Int) = 0 then (some (bt301.1, bt301.2.1, bt301.2.2)) else ((spec_l1Below.f s0_0 bt301.2.1 bt301.2.2 14).bind fun bt306 => (if bt306.1 = 0 then (if 0 < (bt301.1.length : Int) then (if (rd_L1 bt301.1 0).length < 17592186044416 then (some ((bt301.1.set (0 : Int).toNat ((rd_L1 bt301.1 0) ++ [1])), bt306.2.1, bt306.2.2)) else (none)) else (none)) else (if bt306.1 = 1 then (if 0 < (bt301.1.length : Int) then (if ((rd_L1 bt301.1 0).length : Int) > 0 then ((spec_l1Int.f s0_0 bt306.2.1 bt306.2.2 (([(-1), 100001] : List Int))).bind fun bt319 => (if 0 < ((rd_L1 bt301.1 0).length : Int) then (some ((bt301.1.set (0 : Int).toNat ((rd_L1 bt301.1 0).set (0 : Int).toNat bt319.1)), bt319.2.1, bt319.2.2)) else (none))) else (some (bt301.1, bt306.2.1, bt306.2.2))) else (none)) else (if bt306.1 = 2 then (if bt301.1.length < 5864062014805 then (some ((bt301.1 ++ [(([1] : List Int))]), bt306.2.1, bt306.2.2)) else (none)) else (some (bt301.1, bt306.2.1, bt306.2.2)))))))) = some (r1, r2, r3) := h
 clear h
 replace H := Option.bind_eq_some_iff.mp H
 obtain ⟨⟨t301, t304, t305⟩, A20, H⟩ := H
 replace H : (if (t301.length : Int) = 0 then (some (t301, t304, t305)) else ((spec_l1Below.f s0_0 t304 t305 14).bind fun bt306 => (if bt306.1 = 0 then (if 0 < (t301.length : Int) then (if (rd_L1 t301 0).length < 17592186044416 then (some ((t301.set (0 : Int).toNat ((rd_L1 t301 0) ++ [1])), bt306.2.1, bt306.2.2)) else (none)) else (none)) else (if bt306.1 = 1 then (if 0 < (t301.length : Int) then (if ((rd_L1 t301 0).length : Int) > 0 then ((spec_l1Int.f s0_0 bt306.2.1 bt306.2.2 (([(-1), 100001] : List Int))).bind fun bt319 => (if 0 < ((rd_L1 t301 0).length : Int) then (some ((t301.set (0 : Int).toNat ((rd_L1 t301 0).set (0 : Int).toNat bt319.1)), bt319.2.1, bt319.2.2)) else (none))) else (some (t301, bt306.2.1, bt306.2.2))) else (none)) else (if bt306.1 = 2 then (if t301.length < 5864062014805 then (some ((t301 ++ [(([1] : List Int))]), bt306.2.1, bt306.2.2)) else (none)) else (some (t301, bt306.2.1, bt306.2.2))))))) = some (r1, r2, r3) := H
 have A2 := aM A20
 clear A20
 by_cases c3 : (t301.length : Int) = 0
 {
 rw [if_pos c3] at H
 have c3b0 := beq_iff_eq.mpr c3
 have c3b1 := bne_eq_false_iff_eq.mpr c3
 clear c3
 simp only [Option.some.injEq, Prod.mk.injEq] at H
 obtain ⟨rfl, rfl, rfl⟩ := H
 go_enter Try.func45, Try.ntmps45
 go_wp2_with (first | ((with_reducible refine gate_callee (f := 40) rfl ?_); refine goesL_ (some 5) rfl rfl Try.func40 (by kernel_rfl) rfl #[.pointer (some ⟨g, 0, none⟩), .int .i64 6] rfl qz3 ?_; (with_reducible refine (spec_l4Draw.calls k g s0_0 s0_1 s0_2 6 t301 t304 t305 w0 _ ?side1 ?side2 A2.out).mono ?_); (case side1 => exact qz4); (case side2 => exact qz1); rintro e w4 ⟨v302, rfl, ho0, hi, hb, hk⟩; refine ⟨_, rfl, ?_⟩; have HO303 := aM (Kd.S_lower ho0 (keep_size (w := w) (g := g) (row := none) qz2)); replace HK := aM (KeepBut.trans qz2 hk (.inl rfl)); replace HB := aM (hb); replace HI0 := aM (hi); (try clear hb hk hi ho0); obtain ⟨Ao5, co5, eo5⟩ := Kd.S_slice HO303.out; subst eo5))
 go_ret
 exact ⟨_, qzw, by (with_reducible repeat (first | apply Kd.S_alloc | apply Kd.S_drewN | apply Kd.S_drew)); exact HO303.out, qz4, qz1, qz2⟩
 }
 {
 rw [if_neg c3] at H
 have c3b0 := beq_eq_false_iff_ne.mpr c3
 have c3b1 := bne_iff_ne.mpr c3
 have c3b2 : ¬ (t301 = []) := fun h_ => c3 (by rw [h_]; rfl)
 replace H := Option.bind_eq_some_iff.mp H
 obtain ⟨⟨t306, t307, t308⟩, A60, H⟩ := H
 replace H : (if t306 = 0 then (if 0 < (t301.length : Int) then (if (rd_L1 t301 0).length < 17592186044416 then (some ((t301.set (0 : Int).toNat ((rd_L1 t301 0) ++ [1])), t307, t308)) else (none)) else (none)) else (if t306 = 1 then (if 0 < (t301.length : Int) then (if ((rd_L1 t301 0).length : Int) > 0 then ((spec_l1Int.f s0_0 t307 t308 (([(-1), 100001] : List Int))).bind fun bt319 => (if 0 < ((rd_L1 t301 0).length : Int) then (some ((t301.set (0 : Int).toNat ((rd_L1 t301 0).set (0 : Int).toNat bt319.1)), bt319.2.1, bt319.2.2)) else (none))) else (some (t301, t307, t308))) else (none)) else (if t306 = 2 then (if t301.length < 5864062014805 then (some ((t301 ++ [(([1] : List Int))]), t307, t308)) else (none)) else (some (t301, t307, t308))))) = some (r1, r2, r3) := H
 have A6 := aM A60
 clear A60
 by_cases c7 : t306 = 0
 {
 rw [if_pos c7] at H
 have c7b0 := beq_iff_eq.mpr c7
 have c7b1 := bne_eq_false_iff_eq.mpr c7
 clear c7
 by_cases c8 : 0 < (t301.length : Int)
 {
 rw [if_pos c8] at H
 have c8b0 := decide_eq_true c8
 have c8b1 : decide (0 < t301.length) = true := decide_eq_true (by omega)
 clear c8
 by_cases c9 : (rd_L1 t301 0).length < 17592186044416
 {
 rw [if_pos c9] at H
 have LMc9 := aM c9
 clear c9
 obtain ⟨y310, hy310⟩ : ∃ y_ : List Int, y_ = ((rd_L1 t301 0) ++ [1]) := ⟨_, rfl⟩
 replace H : (some ((t301.set (0 : Int).toNat y310), t307, t308)) = some (r1, r2, r3) := by first | (rw [hy310]; with_reducible exact H) | (have H2_ := (Option.bind_some _ _).symm.trans H; rw [hy310]; with_reducible exact H2_) | (have H2_ := (Option.bind_some _ _).symm.trans H; with_reducible exact H2_) | with_reducible exact H | (rw [hy310]; exact H) | exact H
 have Ny310 := aM hy310
 clear hy310
 obtain ⟨y313, hy313⟩ : ∃ y_ : List (List Int), y_ = (t301.set (0 : Int).toNat y310) := ⟨_, rfl⟩
 replace H : (some (y313, t307, t308)) = some (r1, r2, r3) := by first | (rw [hy313]; with_reducible exact H) | (have H2_ := (Option.bind_some _ _).symm.trans H; rw [hy313]; with_reducible exact H2_) | (have H2_ := (Option.bind_some _ _).symm.trans H; with_reducible exact H2_) | with_reducible exact H | (rw [hy313]; exact H) | exact H
 have Ny313 := aM hy313
 clear hy313
 simp only [Option.some.injEq, Prod.mk.injEq] at H
 obtain ⟨rfl, rfl, rfl⟩ := H
 go_enter Try.func45, Try.ntmps45
 go_wp2_with (first | ((with_reducible refine gate_callee (f := 40) rfl ?_); refine goesL_ (some 5) rfl rfl Try.func40 (by kernel_rfl) rfl #[.pointer (some ⟨g, 0, none⟩), .int .i64 6] rfl qz3 ?_; (with_reducible refine (spec_l4Draw.calls k g s0_0 s0_1 s0_2 6 t301 t304 t305 w0 _ ?side1 ?side2 A2.out).mono ?_); (case side1 => exact qz4); (case side2 => exact qz1); rintro e w11 ⟨v302, rfl, ho0, hi, hb, hk⟩; refine ⟨_, rfl, ?_⟩; have HO303 := aM (Kd.S_lower ho0 (keep_size (w := w) (g := g) (row := none) qz2)); replace HK := aM (KeepBut.trans qz2 hk (.inl rfl)); replace HB := aM (hb); replace HI0 := aM (hi); (try clear hb hk hi ho0); obtain ⟨Ao12, co12, eo12⟩ := Kd.S_slice HO303.out; subst eo12) | ((with_reducible refine gate_callee (f := 68) rfl ?_); refine goesL_ (some 11) rfl rfl Try.func68 (by kernel_rfl) rfl #[.pointer (some ⟨g, 0, none⟩), .int .i64 14] rfl qz3 ?_; (with_reducible refine (spec_l1Below.calls g s0_0 t304 t305 14 t306 t307 t308 w0 _ ?side1 ?side2 A6.out).mono ?_); (case side1 => exact qz4); (case side2 => exact qz1); rintro e w13 ⟨rfl, hi, hb, hk⟩; refine ⟨_, rfl, ?_⟩; replace HO303 := aM (Kd.S_mono (Kd.S_keep (IsS77.apartS (show IsS77 w0 _ g s0_0 t304 t305 from qz4) (rs_ HO303.out) (by decide)) hk (fun _ h => h.2)) (fun _ h => h.1)); replace HK := aM (KeepBut.trans qz2 hk (.inl rfl)); replace HB := aM (hb); replace HI0 := aM (hi); (try clear hb hk hi); have p309 : 0 ≤ (0 : Int) := (by omega); have q309 : 0 < (t301.length : Int) := dt_; obtain ⟨ad309, A309_0, c309_0, e309, hx309_0, hl309_0, hi309_0⟩ := at_L1 (Kd.S_reads' HO303.out).2.2 0 p309 q309; cases e309; obtain ⟨ce309, hce309, hMe309, hcc309⟩ := Kd.S_get HO303.out [] 0 p309 (by first | exact q309 | exact dt_ | (have e_ := (Kd.S_reads' HO303.out).1; omega)); obtain ⟨ve309_0, rfl, ge309_0⟩ := hMe309; have hv309_0 := hcc309 0 _ rfl; rw [Nat.add_zero, show ((Kd.slice 3 (Kd.int .i64))).sz = 1 from rfl, Nat.mul_one] at hv309_0; replace hv309_0 := Option.some.inj (hv309_0.symm.trans hx309_0); rw [hv309_0] at ge309_0; have HL309_0 := aM (show Kd.R (Kd.int .i64) 3 _ _ _ _ (rd_L1 t301 0) from ge309_0); clear hv309_0 ge309_0; have HX309_0 := aM hx309_0; clear hcc309 hce309; have qi309 : (0 < t301.length) = True := eq_true (by omega); (try rw [show ((0 : Int)).toNat = 0 from rfl] at hx309_0); (try rw [Addr.add_zero'] at hx309_0); have HR309_0 := aM hi309_0; have HC309_0 := aM hl309_0; clear hi309_0 hl309_0; replace p309 := eq_true p309; replace q309 := eq_true q309; obtain ⟨go14, co14, eo14, gb14, gl14, cl14, HG14⟩ := Kd.S_form HO303.out (by have h_ : (0 : Int) < ((t301.length : Int) : Int) := dt_; have h2_ : 0 ≤ (0 : Int) := (by omega); omega); (first | cases eo14 | (injection eo14 with ea_ en_ ec_; (first | subst ea_ | (injection ea_ with ea_; subst ea_)); subst ec_; clear en_)); have GB14 := aM gb14; have GG14 := aM HG14; clear gb14 gl14 HG14; (first | simp only [add_plain] at hx309_0 | skip); obtain ⟨oki14, ce14, hcl14, hM14, hcc14, _, _, hH14⟩ := Kd.S_elem HO303.out [] (0 : Int) (by omega) (by have h_ : (0 : Int) < ((t301.length : Int) : Int) := dt_; first | exact h_ | (have e_ := (Kd.S_reads' HO303.out).1; omega) | simpa using h_); obtain ⟨ve14_0, rfl, ge14_0⟩ := hM14; have hv14 := hcc14 0 _ rfl; have hX14 := HX309_0.out; (try simp only [add_plain] at hX14); (try simp only [Nat.add_zero] at hv14); (try rw [show ((Kd.slice 3 (Kd.int .i64))).sz = 1 from rfl, Nat.mul_one] at hv14); replace hv14 := Option.some.inj (hv14.symm.trans hX14); subst hv14; clear hX14 hcc14 hcl14; have UU14 := aM (show Kd.R (Kd.int .i64) 3 _ w.heap.size oki14 (.slice A309_0 (rd_L1 t301 0).length c309_0) (rd_L1 t301 0) from ge14_0); have HH14 := aM hH14; have HN14 := aM (Kd.S_reads' HO303.out).1; clear hH14 ge14_0) | ((with_reducible refine gate_builtin (b := .append) (xs := #[.tmp 17, .tmp 18]) rfl ?_); at_builtin; refine Kd.R_append (Kd.int .i64) w.heap.size rfl (.tmp 17) (.tmp 18) 24 3 (.int .i64 0) 8 rfl Try.underlying24 info3 rfl (by decide) (by omega) (.slice A309_0 (rd_L1 t301 0).length c309_0) (rd_L1 t301 0) 1 [.int .i64 1] (fun k_ => oki14 k_ ∨ ((fun _ => True)) k_ ∧ w13.heap.size ≤ k_) (fun _ => False) rfl rfl ?aP (fun _ hk => hk.elim) ?aF ?aO (Below.refl _ _) ?aS ?aL ?_; (case aP => exact rfl); (case aF => exact (fun k_ hk => .inr ⟨trivial, hk⟩)); (case aO => exact (by (with_reducible repeat (first | apply Kd.R_alloc | apply Kd.R_drewN | apply Kd.R_drew)); exact Kd.R_mono UU14.out (fun _ hk => .inl hk))); (case aS => exact (keep_size (w := w) (g := g) (row := none) qz2)); (case aL => have := LMc9.out; omega); intro v311 w15 ho hb hg hat; rw [← Ny310.out] at ho; replace HB := aM (below_weaken qz1 HL.out hb); replace HI0 := aM (IsS77.grown qz4 hg (IsS77.own_ne HI0.out HL309_0.out (by decide))); replace HK := aM (KeepBut.trans qz2 (KeepBut.of_grown hg g) (Kd.R_base2 HL309_0.out)); replace HH14 := aM (Kd.H_grown (Kd.H_widen (by repeat (first | exact HH14.out | refine Kd.H_alloc ?_ _ | refine Kd.H_drewN ?_ _ | refine Kd.H_drew ?_))) hg (fun k_ e_ => .inl (UU14.out.1 k_ e_))); have HO312 := aM (ho); clear HO303 UU14 HL309_0; clear ho hb hg hat; have p10 : 0 ≤ (0 : Int) := (by omega); have q10 : (0 : Int) < ((t301.length : Int) : Int) := dt_; replace p10 := eq_true p10; replace q10 := eq_true q10; obtain ⟨Ao18, co18, eo18⟩ := Kd.R_slice HO312.out; subst eo18; obtain ⟨_, _, hraw16, _, _, hcc16, _⟩ := Kd.H_raw HH14.out (by omega) (by have h_ : (0 : Int) < ((t301.length : Int) : Int) := dt_; first | exact h_ | (have e_ := (HN14.out); omega) | simpa using h_); obtain ⟨_, hfr16⟩ := Kd.H_at HH14.out (by omega) (by have h_ : (0 : Int) < ((t301.length : Int) : Int) := dt_; first | exact h_ | (have e_ := (HN14.out); omega) | simpa using h_); have hx16_0 := hcc16 0 _ rfl; have hf16_0 := hfr16 0; (try simp only [Nat.add_zero] at hx16_0 hf16_0); (try rw [show ((Kd.slice 3 (Kd.int .i64))).sz = 1 from rfl, Nat.mul_one] at hx16_0); (try rw [show ((Kd.slice 3 (Kd.int .i64))).sz = 1 from rfl, Nat.mul_one] at hf16_0); (try rw [show ((0 : Int)).toNat = 0 from rfl] at hx16_0); (try simp only [Nat.reduceMul, Nat.zero_mul, Nat.zero_add, Nat.reduceAdd] at hx16_0); (try rw [show ((0 : Int)).toNat = 0 from rfl] at hf16_0); (try simp only [Nat.reduceMul, Nat.zero_mul, Nat.zero_add, Nat.reduceAdd] at hf16_0); have HP16 := Kd.S_seg0 HH14.out (by omega) (by have h_ : (0 : Int) < ((t301.length : Int) : Int) := dt_; first | exact h_ | (have e_ := (HN14.out); omega) | simpa using h_) (seg := [.slice Ao18 y310.length co18]) (j := 0) (show 1 ≤ 1 from by decide) (x' := y310) (Kd.M_row HO312.out) (fun _ hk => hk); (try simp only [show ((Kd.slice 3 (Kd.int .i64))).sz = 1 from rfl, Nat.mul_one, Nat.add_zero, Int.toNat_natCast] at HP16); clear hcc16 hfr16) | ((with_reducible refine gate_store (t := 24) (p := 20) rfl ?_); refine store_event (t := 24) (p := 20) (v := ?vo_w17) (w1 := (w15.setCell ⟨go14, (0 : Int).toNat, none⟩ (.slice Ao18 y310.length co18))) ?hg ?ho ?hn ?hr ?_; (case ho => rfl); (case hg => rfl); (case hn => rfl); (case hr => exact qz11); intro w17 hw; have hg : w15.grownBy w17 (some go14) := (by rw [hw]; exact HP16.2); have hp_ : Kd.S (Kd.slice 3 (Kd.int .i64)) 24 w17 w.heap.size (fun _ => True) (.slice (some ⟨go14, 0, none⟩) t301.length co12) y313 := (by rw [hw, Ny313.out]; exact HP16.1); clear HP16; replace HI0 := aM (IsS77.grown qz4 hg (IsS77.own_ne HI0.out hraw16 (by decide))); replace HB := aM ((by rw [hw]; exact below_set HB.out (Nat.le_trans HL.out GB14.out) : Below w0.heap.size w0 w17)); replace HK := aM (KeepBut.trans qz2 (KeepBut.of_grown hg g) (Kd.R_base2 hraw16)); have HO303 := aM (hp_); clear HO312 HH14; clear hg hw hp_ hraw16))
 go_ret
 exact ⟨_, qzw, by (with_reducible repeat (first | apply Kd.S_alloc | apply Kd.S_drewN | apply Kd.S_drew)); exact HO303.out, qz4, qz1, qz2⟩
 }
 {
 exact an_ c9 H
 }
 }
 {
 exact an_ c8 H
 }
 }
 {
 rw [if_neg c7] at H
 have c7b0 := beq_eq_false_iff_ne.mpr c7
 have c7b1 := bne_iff_ne.mpr c7
 by_cases c19 : t306 = 1
 {
 rw [if_pos c19] at H
 have c19b0 := beq_iff_eq.mpr c19
 have c19b1 := bne_eq_false_iff_eq.mpr c19
 clear c19
 by_cases c20 : 0 < (t301.length : Int)
 {
 rw [if_pos c20] at H
 have c20b0 := decide_eq_true c20
 have c20b1 : decide (0 < t301.length) = true := decide_eq_true (by omega)
 clear c20
 by_cases c21 : ((rd_L1 t301 0).length : Int) > 0
 {
 rw [if_pos c21] at H
 have c21b0 := decide_eq_true c21
 have c21b1 : decide (0 < (rd_L1 t301 0).length) = true := decide_eq_true (by omega)
 clear c21
 obtain ⟨y316, hy316⟩ : ∃ y_ : List Int, y_ = (([(-1), 100001] : List Int)) := ⟨_, rfl⟩
 replace H : ((spec_l1Int.f s0_0 t307 t308 y316).bind fun bt319 => (if 0 < ((rd_L1 t301 0).length : Int) then (some ((t301.set (0 : Int).toNat ((rd_L1 t301 0).set (0 : Int).toNat bt319.1)), bt319.2.1, bt319.2.2)) else (none))) = some (r1, r2, r3) := by first | (rw [hy316]; with_reducible exact H) | (have H2_ := (Option.bind_some _ _).symm.trans H; rw [hy316]; with_reducible exact H2_) | (have H2_ := (Option.bind_some _ _).symm.trans H; with_reducible exact H2_) | with_reducible exact H | (rw [hy316]; exact H) | exact H
 have Ny316 := aM hy316
 clear hy316
 replace H := Option.bind_eq_some_iff.mp H
 obtain ⟨⟨t319, t320, t321⟩, A220, H⟩ := H
 replace H : (if 0 < ((rd_L1 t301 0).length : Int) then (some ((t301.set (0 : Int).toNat ((rd_L1 t301 0).set (0 : Int).toNat t319)), t320, t321)) else (none)) = some (r1, r2, r3) := H
 have A22 := aM A220
 clear A220
 by_cases c23 : 0 < ((rd_L1 t301 0).length : Int)
 {
 rw [if_pos c23] at H
 have c23b0 := decide_eq_true c23
 have c23b1 : decide (0 < (rd_L1 t301 0).length) = true := decide_eq_true (by omega)
 clear c23
 obtain ⟨y322, hy322⟩ : ∃ y_ : List Int, y_ = ((rd_L1 t301 0).set (0 : Int).toNat t319) := ⟨_, rfl⟩
 replace H : (some ((t301.set (0 : Int).toNat y322), t320, t321)) = some (r1, r2, r3) := by first | (rw [hy322]; with_reducible exact H) | (have H2_ := (Option.bind_some _ _).symm.trans H; rw [hy322]; with_reducible exact H2_) | (have H2_ := (Option.bind_some _ _).symm.trans H; with_reducible exact H2_) | with_reducible exact H | (rw [hy322]; exact H) | exact H
 have Ny322 := aM hy322
 clear hy322
 obtain ⟨y324, hy324⟩ : ∃ y_ : List (List Int), y_ = (t301.set (0 : Int).toNat y322) := ⟨_, rfl⟩
 replace H : (some (y324, t320, t321)) = some (r1, r2, r3) := by first | (rw [hy324]; with_reducible exact H) | (have H2_ := (Option.bind_some _ _).symm.trans H; rw [hy324]; with_reducible exact H2_) | (have H2_ := (Option.bind_some _ _).symm.trans H; with_reducible exact H2_) | with_reducible exact H | (rw [hy324]; exact H) | exact H
 have Ny324 := aM hy324
 clear hy324
 simp only [Option.some.injEq, Prod.mk.injEq] at H
 obtain ⟨rfl, rfl, rfl⟩ := H
 go_enter Try.func45, Try.ntmps45
 try go_wp2_with (first | ((with_reducible refine gate_callee (f := 40) rfl ?_); refine goesL_ (some 5) rfl rfl Try.func40 (by kernel_rfl) rfl #[.pointer (some ⟨g, 0, none⟩), .int .i64 6] rfl qz3 ?_; (with_reducible refine (spec_l4Draw.calls k g s0_0 s0_1 s0_2 6 t301 t304 t305 w0 _ ?side1 ?side2 A2.out).mono ?_); (case side1 => exact qz4); (case side2 => exact qz1); rintro e w25 ⟨v302, rfl, ho0, hi, hb, hk⟩; refine ⟨_, rfl, ?_⟩; have HO303 := aM (Kd.S_lower ho0 (keep_size (w := w) (g := g) (row := none) qz2)); replace HK := aM (KeepBut.trans qz2 hk (.inl rfl)); replace HB := aM (hb); replace HI0 := aM (hi); (try clear hb hk hi ho0); obtain ⟨Ao26, co26, eo26⟩ := Kd.S_slice HO303.out; subst eo26) | ((with_reducible refine gate_callee (f := 68) rfl ?_); refine goesL_ (some 11) rfl rfl Try.func68 (by kernel_rfl) rfl #[.pointer (some ⟨g, 0, none⟩), .int .i64 14] rfl qz3 ?_; (with_reducible refine (spec_l1Below.calls g s0_0 t304 t305 14 t306 t307 t308 w0 _ ?side1 ?side2 A6.out).mono ?_); (case side1 => exact qz4); (case side2 => exact qz1); rintro e w27 ⟨rfl, hi, hb, hk⟩; refine ⟨_, rfl, ?_⟩; replace HO303 := aM (Kd.S_mono (Kd.S_keep (IsS77.apartS (show IsS77 w0 _ g s0_0 t304 t305 from qz4) (rs_ HO303.out) (by decide)) hk (fun _ h => h.2)) (fun _ h => h.1)); replace HK := aM (KeepBut.trans qz2 hk (.inl rfl)); replace HB := aM (hb); replace HI0 := aM (hi); (try clear hb hk hi); have p314 : 0 ≤ (0 : Int) := (by omega); have q314 : 0 < (t301.length : Int) := dt_; obtain ⟨ad314, A314_0, c314_0, e314, hx314_0, hl314_0, hi314_0⟩ := at_L1 (Kd.S_reads' HO303.out).2.2 0 p314 q314; cases e314; obtain ⟨ce314, hce314, hMe314, hcc314⟩ := Kd.S_get HO303.out [] 0 p314 (by first | exact q314 | exact dt_ | (have e_ := (Kd.S_reads' HO303.out).1; omega)); obtain ⟨ve314_0, rfl, ge314_0⟩ := hMe314; have hv314_0 := hcc314 0 _ rfl; rw [Nat.add_zero, show ((Kd.slice 3 (Kd.int .i64))).sz = 1 from rfl, Nat.mul_one] at hv314_0; replace hv314_0 := Option.some.inj (hv314_0.symm.trans hx314_0); rw [hv314_0] at ge314_0; have HL314_0 := aM (show Kd.R (Kd.int .i64) 3 _ _ _ _ (rd_L1 t301 0) from ge314_0); clear hv314_0 ge314_0; have HX314_0 := aM hx314_0; clear hcc314 hce314; have qi314 : (0 < t301.length) = True := eq_true (by omega); (try rw [show ((0 : Int)).toNat = 0 from rfl] at hx314_0); (try rw [Addr.add_zero'] at hx314_0); have HR314_0 := aM hi314_0; have HC314_0 := aM hl314_0; clear hi314_0 hl314_0; replace p314 := eq_true p314; replace q314 := eq_true q314))
 replace HO303 := aM (Kd.S_drew HO303.out)
 replace HL314_0 := aM (Kd.R_drew HL314_0.out)
 replace HR314_0 := aM (Kd.C_drew HR314_0.out)
 replace HI0 := aM (IsS77.drew HI0.out)
 replace HK := aM (keep_drew HK.out)
 replace HB := aM (below_drew1 HB.out)
 have p315 : 0 ≤ (0 : Int) := (by omega)
 have q315 : 0 < (t301.length : Int) := dt_
 obtain ⟨ad315, A315_0, c315_0, e315, hx315_0, hl315_0, hi315_0⟩ := at_L1 (Kd.S_reads' HO303.out).2.2 0 p315 q315
 obtain rfl : ad314 = ad315 := (by injection e315)
 obtain ⟨ce315, hce315, hMe315, hcc315⟩ := Kd.S_get HO303.out [] 0 p315 (by first | exact q315 | exact dt_ | (have e_ := (Kd.S_reads' HO303.out).1; omega))
 obtain ⟨ve315_0, rfl, ge315_0⟩ := hMe315
 have hv315_0 := hcc315 0 _ rfl
 rw [Nat.add_zero, show ((Kd.slice 3 (Kd.int .i64))).sz = 1 from rfl, Nat.mul_one] at hv315_0
 replace hv315_0 := Option.some.inj (hv315_0.symm.trans hx315_0)
 rw [hv315_0] at ge315_0
 have HL315_0 := aM (show Kd.R (Kd.int .i64) 3 _ _ _ _ (rd_L1 t301 0) from ge315_0)
 clear hv315_0 ge315_0
 have HX315_0 := aM hx315_0
 clear hcc315 hce315
 have qi315 : (0 < t301.length) = True := eq_true (by omega)
 (try rw [show ((0 : Int)).toNat = 0 from rfl] at hx315_0)
 (try rw [Addr.add_zero'] at hx315_0)
 have HR315_0 := aM hi315_0
 have HC315_0 := aM hl315_0
 clear hi315_0 hl315_0
 replace p315 := eq_true p315
 replace q315 := eq_true q315
 refine start_ (n := 8) (S := fun w' => w'.cell? ad314 = some (.slice A315_0 (rd_L1 t301 0).length c315_0)) (ds := [7]) #[false, false, false, false, false, false, false, false] (by kernel_rfl) rfl rfl (hx315_0) (fun hHeld => ?_); refine with_tabW spec_l4DrawAny.tab9 spec_l4DrawAny.bits9 (fun HT_ HW_ => ?_)
 generalize w27.drew = w28 at HO303 HL314_0 HR314_0 HI0 HK HB HL315_0 HR315_0 HX315_0 hx315_0 hHeld ⊢
 refine pI_ 0 28 (bqz 8 1) ?_
 refine jI_ 1 29 ?_
 refine jI_ 3 31 ?_
 refine take_ (i := 2) (N := some 30) (v := ?_) (a' := ?_) (bqz 8 15) rfl rfl qzb qzd (Or.inl ⟨by rfl, ?_⟩) hHeld ?_ ?_
 rotate_left
 {
 intro w' s0
 go_simp
 with_reducible rfl
 }
 rotate_left
 {
 simp only [qzs]
 rfl
 }
 refine one_ (i := 4) (N := some 32) (bqz 8 31) rfl rfl qzc (by decide) (fun K hK => ?_)
 refine Kd.R_lit_step (Kd.int .i64) _ 3 ?hg (N := 32) ?hd (xs := ([(-1), 100001] : List Int)) (inner := [.int .i64 (-1), .int .i64 100001]) (ok := fun _ => True) (okp := fun _ => True) ?hr ?hp (fun _ hk => hk) trivial (Below.refl _ _) (Nat.le_refl _) (by simp) ?_; (case hd => rfl); (case hg => rfl); (case hr => exact qz11); (case hp => exact (Reps.one (show Kd.M (Kd.int .i64) _ _ _ (-1) [.int .i64 (-1)] from rfl) (Reps.one (show Kd.M (Kd.int .i64) _ _ _ 100001 [.int .i64 100001] from rfl) (Reps.none _ _))))
 intro v317 w29 ho30 hb hg_ hnew_
 have HS0_ := (hb.cell (World.block_lt_of_cell? _ _ (hHeld))).trans (hHeld)
 clear hg_ hnew_
 (first | rw [← Ny316.out] at ho30 | (simp only [Int.reduceToNat] at ho30; rw [← Ny316.out] at ho30))
 replace HO303 := aM (Kd.S_elder' (rs_ HO303.out) (Kd.R_base ho30) hb)
 have HO318 := aM (Kd.R_lower (Kd.R_new' (Kd.R_new' ho30 (Kd.R_lt (rr_ HL314_0.out))) (Kd.R_lt (rr_ HL315_0.out))) (keep_size (w := w) (g := g) (row := none) qz2))
 replace HL314_0 := aM (Kd.R_elder' (rr_ HL314_0.out) (Kd.R_base ho30) hb)
 replace HL315_0 := aM (Kd.R_elder' (rr_ HL315_0.out) (Kd.R_base ho30) hb)
 replace HR314_0 := aM (Kd.C_below (by repeat (first | (with_reducible exact HR314_0.out) | (with_reducible refine Kd.C_alloc ?_ _) | (with_reducible refine Kd.C_drewN ?_ _) | (with_reducible refine Kd.C_drew ?_) | exact HR314_0.out)) hb)
 replace HR315_0 := aM (Kd.C_below (by repeat (first | (with_reducible exact HR315_0.out) | (with_reducible refine Kd.C_alloc ?_ _) | (with_reducible refine Kd.C_drewN ?_ _) | (with_reducible refine Kd.C_drew ?_) | exact HR315_0.out)) hb)
 replace HX315_0 := aM (pw_cell_below hb HX315_0.out)
 replace HK := aM (KeepBut.trans qz2 (KeepBut.of_below hb g none) (.inl rfl))
 replace HB := bS_ hb
 replace HI0 := aM (IsS77.below qz4 hb)
 clear hb ho30
 obtain ⟨Ao31, co31, eo31⟩ := Kd.R_slice HO318.out
 (first | subst eo31 | (injection eo31 with f1_ f2_ f3_; have f4_ := f1_.symm; have f5_ := f3_.symm; clear f1_ f2_ f3_; subst f4_; subst f5_))
 refine hK.out _ _ (HS0_) (fun hHeld => ?_)
 clear hK K
 refine nm_ 32 ?_
 refine one_ (i := 5) (N := some 33) (bqz 8 63) rfl rfl qzc (by decide) (fun K hK => ?_)
 refine goes_ Try.func48 (by kernel_rfl) rfl #[.pointer (some ⟨g, 0, none⟩), .slice Ao31 y316.length co31] (by rfl) rfl rfl qz3 ?_
 with_reducible refine (spec_l1Int.calls g s0_0 t307 t308 _ _ y316 t319 t320 t321 w0 _ ?side1 ?side2 ?side3 ?side4 ?side5 A22.out).mono ?_
 (case side1 => exact qz4)
 (case side2 => exact qz1)
 (case side3 => repeat (first | exact (Kd.R_reads' HO318.out).2.2 | (with_reducible refine Kd.C_alloc ?_ _) | (with_reducible refine Kd.C_drewN ?_ _) | (with_reducible refine Kd.C_drew ?_)))
 (case side4 => exact (Kd.R_reads' HO318.out).2.1)
 (case side5 => exact far_slice (IsS77.own_ne HI0.out HO318.out (by decide)))
 rintro e w32 ⟨rfl, hi, hb, hk⟩
 have HS0_ := keep_cell hk (hHeld) (by first | (rw [add_block]; exact Kd.own_blk (IsS77.own_neS HI0.out HO303.out (by decide))) | (show (Addr.add _ _).block ≠ _; rw [add_block]; exact Kd.own_blk (IsS77.own_neS HI0.out HO303.out (by decide))) | exact Kd.own_blk (IsS77.own_neS HI0.out HO303.out (by decide)))
 refine ⟨_, rfl, ?_⟩
 replace HL314_0 := aM (Kd.R_mono (Kd.R_keep (IsS77.apart (show IsS77 w0 _ g s0_0 t307 t308 from qz4) (rr_ HL314_0.out) (by decide)) hk (fun _ h => h.2)) (fun _ h => h.1))
 replace HL315_0 := aM (Kd.R_mono (Kd.R_keep (IsS77.apart (show IsS77 w0 _ g s0_0 t307 t308 from qz4) (rr_ HL315_0.out) (by decide)) hk (fun _ h => h.2)) (fun _ h => h.1))
 replace HX315_0 := aM (keep_cell hk HX315_0.out (by first | (rw [add_block]; exact Kd.own_blk (IsS77.own_neS HI0.out HO303.out (by decide))) | (show (Addr.add _ _).block ≠ _; rw [add_block]; exact Kd.own_blk (IsS77.own_neS HI0.out HO303.out (by decide))) | exact Kd.own_blk (IsS77.own_neS HI0.out HO303.out (by decide)) | (dsimp only; exact Kd.own_blk (IsS77.own_neS HI0.out HO303.out (by decide)))))
 replace HO303 := aM (Kd.S_mono (Kd.S_keep (IsS77.apartS (show IsS77 w0 _ g s0_0 t307 t308 from qz4) (rs_ HO303.out) (by decide)) hk (fun _ h => h.2)) (fun _ h => h.1))
 replace HO318 := aM (Kd.R_mono (Kd.R_keep (IsS77.apart (show IsS77 w0 _ g s0_0 t307 t308 from qz4) (rr_ HO318.out) (by decide)) hk (fun _ h => h.2)) (fun _ h => h.1))
 replace HK := aM (KeepBut.trans qz2 hk (.inl rfl))
 replace HB := aM (hb)
 replace HI0 := aM (hi)
 (try clear hb)
 (try clear hb2)
 (try clear hk)
 (try clear hi)
 have p24 : 0 ≤ (0 : Int) := (by omega)
 have q24 : (0 : Int) < (((rd_L1 t301 0).length : Int) : Int) := dt_
 have qi24 : (0 < (rd_L1 t301 0).length) = True := eq_true (by omega)
 obtain ⟨go24, co24, eo24, gb24, gl24, cl24, HG24⟩ := Kd.R_form HL315_0.out (by omega)
 (first | cases eo24 | (injection eo24 with ea_ en_ ec_; (first | subst ea_ | (injection ea_ with ea_; subst ea_)); subst ec_; clear en_))
 have GB24 := aM gb24
 have GG24 := aM HG24
 clear gb24 gl24 HG24
 obtain ⟨hx24_0, hf24_0⟩ := Kd.R_celln 0 HL315_0.out (0 : Int) p24 q24
 (try rw [show ((0 : Int)).toNat = 0 from rfl] at hx24_0)
 (try simp only [Nat.reduceMul, Nat.zero_mul, Nat.zero_add, Nat.reduceAdd] at hx24_0)
 (try rw [show ((0 : Int)).toNat = 0 from rfl] at hf24_0)
 (try simp only [Nat.reduceMul, Nat.zero_mul, Nat.zero_add, Nat.reduceAdd] at hf24_0)
 replace p24 := eq_true p24
 replace q24 := eq_true q24
 have n_ := aM (Kd.S_mono (ok' := (fun k_ => some k_ ≠ (.slice Ao31 y316.length co31 : Value).ownBlock)) HO303.out (fun k_ hk => hk.2))
 clear HO303
 have HO303 := n_
 clear n_
 have hq33 : (0 : Int) < (t301.length : Int) := (by have h_ : (0 : Int) < ((t301.length : Int) : Int) := dt_; first | exact h_ | (have e_ := (Kd.S_reads' HO303.out).1; omega) | simpa only [List.length_set, List.length_set] using h_)
 obtain ⟨oki33, ce33, hcl33, hM33, hcc33, hok33, hbk33⟩ := Kd.S_borrow HO303.out [] (0 : Int) (by omega) hq33
 obtain ⟨ve33_0, rfl, ge33_0⟩ := hM33
 have hv33 := hcc33 0 _ rfl
 rw [Nat.add_zero, show ((Kd.slice 3 (Kd.int .i64))).sz = 1 from rfl, Nat.mul_one] at hv33
 replace hv33 := Option.some.inj (hv33.symm.trans HX315_0.out)
 subst hv33
 clear hcc33 hcl33
 replace ge33_0 := (show Kd.R (Kd.int .i64) 3 _ _ _ _ (rd_L1 t301 0) from ge33_0)
 have HP33 := Kd.R_putg ge33_0 (0 : Int) t319
 have HN0_go24 := aM (show g ≠ go24 from by have h_ := IsS77.own_ne HI0.out HL315_0.out (by decide); intro e_; exact h_ (by rw [e_]; rfl))
 rw [← Ny322.out] at HP33
 have HS33 := hbk33 HP33.2 (fun k_ e_ => by injection e_ with e_; subst e_; exact ge33_0.1 _ rfl) (x' := y322) (Kd.M_row HP33.1)
 rw [← Ny324.out] at HS33
 have HQ33 := aM HS33
 clear HP33 HS33 hbk33 hok33
 refine hK.out _ _ (HS0_) (fun hHeld => ?_)
 clear hK K
 refine nm_ 33 ?_
 refine pI_ 6 34 (bqz 8 127) ?_
 refine last_ (i := 7) (N := none) (bqz 8 255) rfl rfl qzc (by decide) (fun K hK => ?_)
 refine sk_ ?_
 refine hK.out _ _ ?_
 clear hK K
 refine done_ (done_of HT_.out (by kernel_rfl)) ?_
 try go_wp2
 go_ret
 exact ⟨_, qzw, by (with_reducible repeat (first | apply Kd.S_alloc | apply Kd.S_drewN | apply Kd.S_drew)); exact Kd.S_mono HQ33.out (fun _ hk => trivial), qz4, qz1, qz2⟩
 }
 {
 exact an_ c23 H
 }
 }
 {
 rw [if_neg c21] at H
 have c21b0 := decide_eq_false c21
 have c21b1 : decide (0 < (rd_L1 t301 0).length) = false := decide_eq_false (by omega)
 clear c21
 simp only [Option.some.injEq, Prod.mk.injEq] at H
 obtain ⟨rfl, rfl, rfl⟩ := H
 go_enter Try.func45, Try.ntmps45
 go_wp2_with (first | ((with_reducible refine gate_callee (f := 40) rfl ?_); refine goesL_ (some 5) rfl rfl Try.func40 (by kernel_rfl) rfl #[.pointer (some ⟨g, 0, none⟩), .int .i64 6] rfl qz3 ?_; (with_reducible refine (spec_l4Draw.calls k g s0_0 s0_1 s0_2 6 t301 t304 t305 w0 _ ?side1 ?side2 A2.out).mono ?_); (case side1 => exact qz4); (case side2 => exact qz1); rintro e w35 ⟨v302, rfl, ho0, hi, hb, hk⟩; refine ⟨_, rfl, ?_⟩; have HO303 := aM (Kd.S_lower ho0 (keep_size (w := w) (g := g) (row := none) qz2)); replace HK := aM (KeepBut.trans qz2 hk (.inl rfl)); replace HB := aM (hb); replace HI0 := aM (hi); (try clear hb hk hi ho0); obtain ⟨Ao36, co36, eo36⟩ := Kd.S_slice HO303.out; subst eo36) | ((with_reducible refine gate_callee (f := 68) rfl ?_); refine goesL_ (some 11) rfl rfl Try.func68 (by kernel_rfl) rfl #[.pointer (some ⟨g, 0, none⟩), .int .i64 14] rfl qz3 ?_; (with_reducible refine (spec_l1Below.calls g s0_0 t304 t305 14 t306 t307 t308 w0 _ ?side1 ?side2 A6.out).mono ?_); (case side1 => exact qz4); (case side2 => exact qz1); rintro e w37 ⟨rfl, hi, hb, hk⟩; refine ⟨_, rfl, ?_⟩; replace HO303 := aM (Kd.S_mono (Kd.S_keep (IsS77.apartS (show IsS77 w0 _ g s0_0 t304 t305 from qz4) (rs_ HO303.out) (by decide)) hk (fun _ h => h.2)) (fun _ h => h.1)); replace HK := aM (KeepBut.trans qz2 hk (.inl rfl)); replace HB := aM (hb); replace HI0 := aM (hi); (try clear hb hk hi); have p314 : 0 ≤ (0 : Int) := (by omega); have q314 : 0 < (t301.length : Int) := dt_; obtain ⟨ad314, A314_0, c314_0, e314, hx314_0, hl314_0, hi314_0⟩ := at_L1 (Kd.S_reads' HO303.out).2.2 0 p314 q314; cases e314; obtain ⟨ce314, hce314, hMe314, hcc314⟩ := Kd.S_get HO303.out [] 0 p314 (by first | exact q314 | exact dt_ | (have e_ := (Kd.S_reads' HO303.out).1; omega)); obtain ⟨ve314_0, rfl, ge314_0⟩ := hMe314; have hv314_0 := hcc314 0 _ rfl; rw [Nat.add_zero, show ((Kd.slice 3 (Kd.int .i64))).sz = 1 from rfl, Nat.mul_one] at hv314_0; replace hv314_0 := Option.some.inj (hv314_0.symm.trans hx314_0); rw [hv314_0] at ge314_0; have HL314_0 := aM (show Kd.R (Kd.int .i64) 3 _ _ _ _ (rd_L1 t301 0) from ge314_0); clear hv314_0 ge314_0; have HX314_0 := aM hx314_0; clear hcc314 hce314; have qi314 : (0 < t301.length) = True := eq_true (by omega); (try rw [show ((0 : Int)).toNat = 0 from rfl] at hx314_0); (try rw [Addr.add_zero'] at hx314_0); have HR314_0 := aM hi314_0; have HC314_0 := aM hl314_0; clear hi314_0 hl314_0; replace p314 := eq_true p314; replace q314 := eq_true q314))
 go_ret
 exact ⟨_, qzw, by (with_reducible repeat (first | apply Kd.S_alloc | apply Kd.S_drewN | apply Kd.S_drew)); exact HO303.out, qz4, qz1, qz2⟩
 }
 }
 {
 exact an_ c20 H
 }
 }
 {
 rw [if_neg c19] at H
 have c19b0 := beq_eq_false_iff_ne.mpr c19
 have c19b1 := bne_iff_ne.mpr c19
 by_cases c38 : t306 = 2
 {
 rw [if_pos c38] at H
 have c38b0 := beq_iff_eq.mpr c38
 have c38b1 := bne_eq_false_iff_eq.mpr c38
 clear c38
 obtain ⟨y325, hy325⟩ : ∃ y_ : List Int, y_ = (([1] : List Int)) := ⟨_, rfl⟩
 replace H : (if t301.length < 5864062014805 then (some ((t301 ++ [y325]), t307, t308)) else (none)) = some (r1, r2, r3) := by first | (rw [hy325]; with_reducible exact H) | (have H2_ := (Option.bind_some _ _).symm.trans H; rw [hy325]; with_reducible exact H2_) | (have H2_ := (Option.bind_some _ _).symm.trans H; with_reducible exact H2_) | with_reducible exact H | (rw [hy325]; exact H) | exact H
 have Ny325 := aM hy325
 clear hy325
 by_cases c39 : t301.length < 5864062014805
 {
 rw [if_pos c39] at H
 have LMc39 := aM c39
 clear c39
 obtain ⟨y328, hy328⟩ : ∃ y_ : List (List Int), y_ = (t301 ++ [y325]) := ⟨_, rfl⟩
 replace H : (some (y328, t307, t308)) = some (r1, r2, r3) := by first | (rw [hy328]; with_reducible exact H) | (have H2_ := (Option.bind_some _ _).symm.trans H; rw [hy328]; with_reducible exact H2_) | (have H2_ := (Option.bind_some _ _).symm.trans H; with_reducible exact H2_) | with_reducible exact H | (rw [hy328]; exact H) | exact H
 have Ny328 := aM hy328
 clear hy328
 simp only [Option.some.injEq, Prod.mk.injEq] at H
 obtain ⟨rfl, rfl, rfl⟩ := H
 go_enter Try.func45, Try.ntmps45
 go_wp2_with (first | ((with_reducible refine gate_callee (f := 40) rfl ?_); refine goesL_ (some 5) rfl rfl Try.func40 (by kernel_rfl) rfl #[.pointer (some ⟨g, 0, none⟩), .int .i64 6] rfl qz3 ?_; (with_reducible refine (spec_l4Draw.calls k g s0_0 s0_1 s0_2 6 t301 t304 t305 w0 _ ?side1 ?side2 A2.out).mono ?_); (case side1 => exact qz4); (case side2 => exact qz1); rintro e w40 ⟨v302, rfl, ho0, hi, hb, hk⟩; refine ⟨_, rfl, ?_⟩; have HO303 := aM (Kd.S_lower ho0 (keep_size (w := w) (g := g) (row := none) qz2)); replace HK := aM (KeepBut.trans qz2 hk (.inl rfl)); replace HB := aM (hb); replace HI0 := aM (hi); (try clear hb hk hi ho0); obtain ⟨Ao41, co41, eo41⟩ := Kd.S_slice HO303.out; subst eo41) | ((with_reducible refine gate_callee (f := 68) rfl ?_); refine goesL_ (some 11) rfl rfl Try.func68 (by kernel_rfl) rfl #[.pointer (some ⟨g, 0, none⟩), .int .i64 14] rfl qz3 ?_; (with_reducible refine (spec_l1Below.calls g s0_0 t304 t305 14 t306 t307 t308 w0 _ ?side1 ?side2 A6.out).mono ?_); (case side1 => exact qz4); (case side2 => exact qz1); rintro e w42 ⟨rfl, hi, hb, hk⟩; refine ⟨_, rfl, ?_⟩; replace HO303 := aM (Kd.S_mono (Kd.S_keep (IsS77.apartS (show IsS77 w0 _ g s0_0 t304 t305 from qz4) (rs_ HO303.out) (by decide)) hk (fun _ h => h.2)) (fun _ h => h.1)); replace HK := aM (KeepBut.trans qz2 hk (.inl rfl)); replace HB := aM (hb); replace HI0 := aM (hi); (try clear hb hk hi)) | ((with_reducible refine gate_dst (N := 38) rfl ?_); refine Kd.R_lit (Kd.int .i64) _ 3 ?hg (N := 38) ?hd (xs := ([1] : List Int)) (inner := [.int .i64 1]) (ok := fun _ => True) (okp := fun _ => True) ?hr ?hp (fun _ hk => hk) trivial (Below.refl _ _) (Nat.le_refl _) (by simp) ?_; (case hd => rfl); (case hg => rfl); (case hr => exact qz11); (case hp => exact (Reps.one (show Kd.M (Kd.int .i64) _ _ _ 1 [.int .i64 1] from rfl) (Reps.none _ _))); intro v326 w43 ho44 hb hg_ hnew_; clear hg_ hnew_; (first | rw [← Ny325.out] at ho44 | (simp only [Int.reduceToNat] at ho44; rw [← Ny325.out] at ho44)); replace HO303 := aM (Kd.S_elder' (rs_ HO303.out) (Kd.R_base ho44) hb); have HO327 := aM (Kd.R_lower ho44 (keep_size (w := w) (g := g) (row := none) qz2)); replace HK := aM (KeepBut.trans qz2 (KeepBut.of_below hb g none) (.inl rfl)); replace HB := bS_ hb; replace HI0 := aM (IsS77.below qz4 hb); clear hb ho44; obtain ⟨Ao46, co46, eo46⟩ := Kd.R_slice HO327.out; subst eo46) | ((with_reducible refine gate_builtin (b := .append) (xs := #[.tmp 37, .tmp 39]) rfl ?_); at_builtin; refine Kd.S_append (Kd.slice 3 (Kd.int .i64)) w.heap.size rfl (.tmp 37) (.tmp 39) 22 24 (.slice none 0 0) 24 rfl Try.underlying22 info24 rfl (by decide) (by omega) (.slice Ao41 t301.length co41) t301 y325 [.slice Ao46 y325.length co46] (fun _ => True) (fun k_ => some k_ = (.slice Ao46 y325.length co46 : Value).ownBlock) rfl rfl ?aP (fun k_ hk_ => ((Kd.R_mono (ok' := fun k_ => ((fun _ => True)) k_ ∧ some k_ ≠ (.slice Ao41 t301.length co41 : Value).ownBlock) (Kd.R_apart' (HO327.out) (Kd.S_typed HO303.out) (by decide)) (fun k_ hk => ⟨trivial, hk.2⟩))).1 k_ hk_.symm) ?aF ?aO (Below.refl _ _) ?aS ?aL ?_; (case aP => exact Kd.M_row (Kd.R_mono (Kd.R_tight rfl (Kd.R_mono (ok' := fun k_ => ((fun _ => True)) k_ ∧ some k_ ≠ (.slice Ao41 t301.length co41 : Value).ownBlock) (Kd.R_apart' (HO327.out) (Kd.S_typed HO303.out) (by decide)) (fun k_ hk => ⟨trivial, hk.2⟩))) (fun _ h_ => h_))); (case aF => exact (fun _ _ => trivial)); (case aO => exact (by (with_reducible repeat (first | apply Kd.S_alloc | apply Kd.S_drewN | apply Kd.S_drew)); exact Kd.S_mono HO303.out (fun k_ hk => ⟨trivial, fun e_ => hk.2 e_⟩))); (case aS => exact (keep_size (w := w) (g := g) (row := none) qz2)); (case aL => have := LMc39.out; omega); intro v329 w45 ho hb hg hat; rw [← Ny328.out] at ho; replace HB := aM (below_weaken qz1 HL.out hb); replace HI0 := aM (IsS77.grown qz4 hg (IsS77.own_neS HI0.out HO303.out (by decide))); replace HK := aM (KeepBut.trans qz2 (KeepBut.of_grown hg g) (Kd.S_base2 HO303.out)); have HO330 := aM (ho); clear HO303 HO327; clear ho hb hg hat))
 go_ret
 exact ⟨_, qzw, by (with_reducible repeat (first | apply Kd.S_alloc | apply Kd.S_drewN | apply Kd.S_drew)); exact HO330.out, qz4, qz1, qz2⟩
 }
 {
 exact an_ c39 H
 }
 }
 {
 rw [if_neg c38] at H
 have c38b0 := beq_eq_false_iff_ne.mpr c38
 have c38b1 := bne_iff_ne.mpr c38
 simp only [Option.some.injEq, Prod.mk.injEq] at H
 obtain ⟨rfl, rfl, rfl⟩ := H
 go_enter Try.func45, Try.ntmps45
 go_wp2_with (first | ((with_reducible refine gate_callee (f := 40) rfl ?_); refine goesL_ (some 5) rfl rfl Try.func40 (by kernel_rfl) rfl #[.pointer (some ⟨g, 0, none⟩), .int .i64 6] rfl qz3 ?_; (with_reducible refine (spec_l4Draw.calls k g s0_0 s0_1 s0_2 6 t301 t304 t305 w0 _ ?side1 ?side2 A2.out).mono ?_); (case side1 => exact qz4); (case side2 => exact qz1); rintro e w47 ⟨v302, rfl, ho0, hi, hb, hk⟩; refine ⟨_, rfl, ?_⟩; have HO303 := aM (Kd.S_lower ho0 (keep_size (w := w) (g := g) (row := none) qz2)); replace HK := aM (KeepBut.trans qz2 hk (.inl rfl)); replace HB := aM (hb); replace HI0 := aM (hi); (try clear hb hk hi ho0); obtain ⟨Ao48, co48, eo48⟩ := Kd.S_slice HO303.out; subst eo48) | ((with_reducible refine gate_callee (f := 68) rfl ?_); refine goesL_ (some 11) rfl rfl Try.func68 (by kernel_rfl) rfl #[.pointer (some ⟨g, 0, none⟩), .int .i64 14] rfl qz3 ?_; (with_reducible refine (spec_l1Below.calls g s0_0 t304 t305 14 t306 t307 t308 w0 _ ?side1 ?side2 A6.out).mono ?_); (case side1 => exact qz4); (case side2 => exact qz1); rintro e w49 ⟨rfl, hi, hb, hk⟩; refine ⟨_, rfl, ?_⟩; replace HO303 := aM (Kd.S_mono (Kd.S_keep (IsS77.apartS (show IsS77 w0 _ g s0_0 t304 t305 from qz4) (rs_ HO303.out) (by decide)) hk (fun _ h => h.2)) (fun _ h => h.1)); replace HK := aM (KeepBut.trans qz2 hk (.inl rfl)); replace HB := aM (hb); replace HI0 := aM (hi); (try clear hb hk hi)))
 go_ret
 exact ⟨_, qzw, by (with_reducible repeat (first | apply Kd.S_alloc | apply Kd.S_drewN | apply Kd.S_drew)); exact HO303.out, qz4, qz1, qz2⟩

 }
 }
 }
 }
/-! ### spec_l4Least: function 35 -/
mutual
def spec_l4Least.l0 : Nat → List (List Int) → Int → Int → List Int → List Int → List Int → Int → Option (Int)
 | 0, _, _, _, _, _, _, _ => none
 | k + 1, x0, x3, x4, x5, x6, x7, x8 => if x8 ≤ x3 then (if 0 < (x7.length : Int) then ((spec_l4Grow.f k x0 x5 x6 (x7.set (0 : Int).toNat x8) x4).bind fun bt342 => (spec_l4Least.l0 k x0 x3 x4 bt342.1 bt342.2.1 bt342.2.2 (wrap64 (x8 + 1)))) else (none)) else (spec_l4Least.l1 k x0 x4 x7 0 1)
def spec_l4Least.l1 : Nat → List (List Int) → Int → List Int → Int → Int → Option (Int)
 | 0, _, _, _, _, _ => none
 | k + 1, x0, x4, x7, x9, x10 => if x10 ≤ x4 then (if 0 ≤ x10 then (if x10 < (x7.length : Int) then (if (rd x7 x10) > 0 then (if 0 ≤ (wrap64 ((rd x7 x10) - 1)) then (if (wrap64 ((rd x7 x10) - 1)) < (x0.length : Int) then (if 0 ≤ (wrap64 (x10 - 1)) then (if (wrap64 (x10 - 1)) < ((rd_L1 x0 (wrap64 ((rd x7 x10) - 1))).length : Int) then (spec_l4Least.l1 k x0 x4 x7 (wrap64 (x9 + (rd (rd_L1 x0 (wrap64 ((rd x7 x10) - 1))) (wrap64 (x10 - 1))))) (wrap64 (x10 + 1))) else (none)) else (none)) else (none)) else (none)) else (spec_l4Least.l1 k x0 x4 x7 x9 (wrap64 (x10 + 1)))) else (none)) else (none)) else (some x9)
end
def spec_l4Least.f (k : Nat) (l0 : List (List Int)) : Option (Int) := if (l0.length : Int) = 0 then (some 0) else (if 0 < (l0.length : Int) then (if 0 ≤ (wrap64 ((l0.length : Int) + 1)) then (if (wrap64 ((l0.length : Int) + 1) : Int).toNat ≤ 35184372088832 then (if 0 ≤ (wrap64 (((rd_L1 l0 0).length : Int) + 1)) then (if (wrap64 (((rd_L1 l0 0).length : Int) + 1) : Int).toNat ≤ 35184372088832 then (spec_l4Least.l0 k l0 (l0.length : Int) ((rd_L1 l0 0).length : Int) (List.replicate (wrap64 ((l0.length : Int) + 1) : Int).toNat 0) (List.replicate (wrap64 (((rd_L1 l0 0).length : Int) + 1) : Int).toNat 0) (List.replicate (wrap64 (((rd_L1 l0 0).length : Int) + 1) : Int).toNat 0) 1) else (none)) else (none)) else (none)) else (none)) else (none))
theorem spec_l4Least.mono_l : ∀ k, (∀ y0 y1 y2 y3 y4 y5 y6, LeO (spec_l4Least.l0 k y0 y1 y2 y3 y4 y5 y6) (spec_l4Least.l0 (k + 1) y0 y1 y2 y3 y4 y5 y6)) ∧ (∀ y0 y1 y2 y3 y4, LeO (spec_l4Least.l1 k y0 y1 y2 y3 y4) (spec_l4Least.l1 (k + 1) y0 y1 y2 y3 y4))
 | 0 => ⟨fun _ _ _ _ _ _ _ r h => by simp [spec_l4Least.l0] at h, fun _ _ _ _ _ r h => by simp [spec_l4Least.l1] at h⟩
 | k + 1 => by
  obtain ⟨ih0, ih1⟩ := spec_l4Least.mono_l k
  refine ⟨?_, ?_⟩
  {
  intro y0 y1 y2 y3 y4 y5 y6
  unfold spec_l4Least.l0
  have j0 := @spec_l4Grow.mono
  exact qL
  }
  {
  intro y0 y1 y2 y3 y4
  unfold spec_l4Least.l1
  have j0 := @spec_l4Grow.mono
  exact qL
  }
theorem spec_l4Least.mono : ∀ a0 k, LeO (spec_l4Least.f k a0) (spec_l4Least.f (k + 1) a0) := by
 intro a0 k
 obtain ⟨ih0, ih1⟩ := spec_l4Least.mono_l k
 unfold spec_l4Least.f
 have j0 := @spec_l4Grow.mono
 exact qL
set_option maxHeartbeats 8000000 in
set_option maxRecDepth 100000 in
theorem spec_l4Least.calls (k : Nat) (A0 : Option Addr) (c0 : Nat) (l0 : List (List Int)) (r : Int) (w : World) (hr0 : Kd.C (Kd.slice 3 (Kd.int .i64)) w A0 l0.length l0) (hc0 : l0.length ≤ c0) (h : spec_l4Least.f k l0 = some r) :
  Calls Try.prog 35 #[.slice A0 l0.length c0] w fun e w' => e = .returned (.int .i64 r) ∧ Below w.heap.size w w' := by
 have HR0 := aM hr0
 have HC0 := aM hc0
 clear hr0 hc0
 have HB := aM (Below.refl w.heap.size w)
 have H : (if (l0.length : Int) = 0 then (some 0) else (if 0 < (l0.length : Int) then (if 0 ≤ (wrap64 ((l0.length : Int) + 1)) then (if (wrap64 ((l0.length : Int) + 1) : Int).toNat ≤ 35184372088832 then (if 0 ≤ (wrap64 (((rd_L1 l0 0).length : Int) + 1)) then (if (wrap64 (((rd_L1 l0 0).length : Int) + 1) : Int).toNat ≤ 35184372088832 then (spec_l4Least.l0 k l0 (l0.length : Int) ((rd_L1 l0 0).length : Int) (List.replicate (wrap64 ((l0.length : Int) + 1) : Int).toNat 0) (List.replicate (wrap64 (((rd_L1 l0 0).length : Int) + 1) : Int).toNat 0) (List.replicate (wrap64 (((rd_L1 l0 0).length : Int) + 1) : Int).toNat 0) 1) else (none)) else (none)) else (none)) else (none)) else (none))) = some r := h
 clear h
 by_cases c2 : (l0.length : Int) = 0
 {
 rw [if_pos c2] at H
 have c2b0 := beq_iff_eq.mpr c2
 have c2b1 := bne_eq_false_iff_eq.mpr c2
 clear c2
 obtain rfl := Option.some.inj H
 simp only [Option.some.injEq, Prod.mk.injEq] at H
 obtain ⟨rfl⟩ := H
 go_enter Try.func35, Try.ntmps35
 go_wp2
 go_ret
 exact ⟨qzw, qz1⟩
 }
 {
 rw [if_neg c2] at H
 have c2b0 := beq_eq_false_iff_ne.mpr c2
 have c2b1 := bne_iff_ne.mpr c2
 have c2b2 : ¬ (l0 = []) := fun h_ => c2 (by rw [h_]; rfl)
 by_cases c3 : 0 < (l0.length : Int)
 {
 rw [if_pos c3] at H
 have c3b0 := decide_eq_true c3
 have c3b1 : decide (0 < l0.length) = true := decide_eq_true (by omega)
 clear c3
 obtain ⟨ji4, hji4⟩ : ∃ j_ : Int, (wrap64 ((l0.length : Int) + 1)) = j_ := ⟨_, rfl⟩
 replace H : (if 0 ≤ (ji4) then (if (ji4 : Int).toNat ≤ 35184372088832 then (if 0 ≤ (wrap64 (((rd_L1 l0 0).length : Int) + 1)) then (if (wrap64 (((rd_L1 l0 0).length : Int) + 1) : Int).toNat ≤ 35184372088832 then (spec_l4Least.l0 k l0 (l0.length : Int) ((rd_L1 l0 0).length : Int) (List.replicate (ji4 : Int).toNat 0) (List.replicate (wrap64 (((rd_L1 l0 0).length : Int) + 1) : Int).toNat 0) (List.replicate (wrap64 (((rd_L1 l0 0).length : Int) + 1) : Int).toNat 0) 1) else (none)) else (none)) else (none)) else (none)) = some r := by first | (rw [hji4] at H; exact H) | (simp only [hji4] at H ⊢; exact H)
 have hji4w : (IntKind.i64.wrap ((l0.length : Int) + 1)) = ji4 := (i64_w _).trans hji4
 by_cases c5 : 0 ≤ (ji4)
 {
 rw [if_pos c5] at H
 have c5b0 := eq_true c5
 have c5b1 := decide_eq_true c5
 clear c5
 by_cases c6 : (ji4 : Int).toNat ≤ 35184372088832
 {
 rw [if_pos c6] at H
 have c6b0 := eq_true c6
 have c6b1 := decide_eq_true c6
 clear c6
 obtain ⟨y332, hy332⟩ : ∃ y_ : List Int, y_ = (List.replicate (ji4 : Int).toNat 0) := ⟨_, rfl⟩
 replace H : (if 0 ≤ (wrap64 (((rd_L1 l0 0).length : Int) + 1)) then (if (wrap64 (((rd_L1 l0 0).length : Int) + 1) : Int).toNat ≤ 35184372088832 then (spec_l4Least.l0 k l0 (l0.length : Int) ((rd_L1 l0 0).length : Int) y332 (List.replicate (wrap64 (((rd_L1 l0 0).length : Int) + 1) : Int).toNat 0) (List.replicate (wrap64 (((rd_L1 l0 0).length : Int) + 1) : Int).toNat 0) 1) else (none)) else (none)) = some r := by first | (rw [hy332]; with_reducible exact H) | (have H2_ := (Option.bind_some _ _).symm.trans H; rw [hy332]; with_reducible exact H2_) | (have H2_ := (Option.bind_some _ _).symm.trans H; with_reducible exact H2_) | with_reducible exact H | (rw [hy332]; exact H) | exact H
 have Ny332 := aM hy332
 clear hy332
 obtain ⟨ji7, hji7⟩ : ∃ j_ : Int, (wrap64 (((rd_L1 l0 0).length : Int) + 1)) = j_ := ⟨_, rfl⟩
 replace H : (if 0 ≤ (ji7) then (if (ji7 : Int).toNat ≤ 35184372088832 then (spec_l4Least.l0 k l0 (l0.length : Int) ((rd_L1 l0 0).length : Int) y332 (List.replicate (ji7 : Int).toNat 0) (List.replicate (ji7 : Int).toNat 0) 1) else (none)) else (none)) = some r := by first | (rw [hji7] at H; exact H) | (simp only [hji7] at H ⊢; exact H)
 have hji7w : (IntKind.i64.wrap (((rd_L1 l0 0).length : Int) + 1)) = ji7 := (i64_w _).trans hji7
 by_cases c8 : 0 ≤ (ji7)
 {
 rw [if_pos c8] at H
 have c8b0 := eq_true c8
 have c8b1 := decide_eq_true c8
 clear c8
 by_cases c9 : (ji7 : Int).toNat ≤ 35184372088832
 {
 rw [if_pos c9] at H
 have c9b0 := eq_true c9
 have c9b1 := decide_eq_true c9
 clear c9
 obtain ⟨y335, hy335⟩ : ∃ y_ : List Int, y_ = (List.replicate (ji7 : Int).toNat 0) := ⟨_, rfl⟩
 replace H : (spec_l4Least.l0 k l0 (l0.length : Int) ((rd_L1 l0 0).length : Int) y332 y335 (List.replicate (ji7 : Int).toNat 0) 1) = some r := by first | (rw [hy335]; with_reducible exact H) | (have H2_ := (Option.bind_some _ _).symm.trans H; rw [hy335]; with_reducible exact H2_) | (have H2_ := (Option.bind_some _ _).symm.trans H; with_reducible exact H2_) | with_reducible exact H | (rw [hy335]; exact H) | exact H
 have Ny335 := aM hy335
 clear hy335
 obtain ⟨y338, hy338⟩ : ∃ y_ : List Int, y_ = (List.replicate (ji7 : Int).toNat 0) := ⟨_, rfl⟩
 replace H : (spec_l4Least.l0 k l0 (l0.length : Int) ((rd_L1 l0 0).length : Int) y332 y335 y338 1) = some r := by first | (rw [hy338]; with_reducible exact H) | (have H2_ := (Option.bind_some _ _).symm.trans H; rw [hy338]; with_reducible exact H2_) | (have H2_ := (Option.bind_some _ _).symm.trans H; with_reducible exact H2_) | with_reducible exact H | (rw [hy338]; exact H) | exact H
 have Ny338 := aM hy338
 clear hy338
 have H' := aM H
 clear H
 have p331 : 0 ≤ (0 : Int) := (by omega)
 have q331 : 0 < (l0.length : Int) := dt_
 obtain ⟨ad331, A331_0, c331_0, e331, hx331_0, hl331_0, hi331_0⟩ := at_L1 HR0.out 0 p331 q331
 cases e331
 have qi331 : (0 < l0.length) = True := eq_true (by omega)
 (try rw [show ((0 : Int)).toNat = 0 from rfl] at hx331_0)
 (try rw [Addr.add_zero'] at hx331_0)
 have HR331_0 := aM hi331_0
 have HC331_0 := aM hl331_0
 clear hi331_0 hl331_0
 replace p331 := eq_true p331
 replace q331 := eq_true q331
 go_enter Try.func35, Try.ntmps35
 go_wp2_with (first | ((with_reducible refine gate_dst (N := 21) rfl ?_); refine Kd.R_make (Kd.int .i64) _ 3 rfl (N := 21) rfl 24 _ _ rfl ji4 rfl rfl Try.underlying24 (.int .i64 0) 8 info3 rfl (by decide) (by omega) 0 (ok := fun _ => True) (okp := fun _ => True) rfl (fun _ hk => hk) trivial (dt_) (Nat.le_trans (Nat.mul_le_mul_right _ (dt_ : ji4.toNat ≤ 35184372088832)) (by omega)) (Below.refl _ _) (Nat.le_refl _) ?_; intro v333 w10 ho11 hb hg_ hnew_; clear hg_ hnew_; (first | rw [← Ny332.out] at ho11 | (simp only [Int.reduceToNat] at ho11; rw [← Ny332.out] at ho11)); have HO334 := aM (Kd.R_lower ho11 (below_size qz1)); replace HB := bS_ hb; clear hb ho11) | ((with_reducible refine gate_dst (N := 24) rfl ?_); refine Kd.R_make (Kd.int .i64) _ 3 rfl (N := 24) rfl 24 _ _ rfl ji7 rfl rfl Try.underlying24 (.int .i64 0) 8 info3 rfl (by decide) (by omega) 0 (ok := fun _ => True) (okp := fun _ => True) rfl (fun _ hk => hk) trivial (dt_) (Nat.le_trans (Nat.mul_le_mul_right _ (dt_ : ji7.toNat ≤ 35184372088832)) (by omega)) (Below.refl _ _) (Nat.le_refl _) ?_; intro v336 w12 ho13 hb hg_ hnew_; clear hg_ hnew_; (first | rw [← Ny335.out] at ho13 | (simp only [Int.reduceToNat] at ho13; rw [← Ny335.out] at ho13)); have HO337 := aM (Kd.R_lower (Kd.R_new' ho13 (Kd.R_lt (rr_ HO334.out))) (below_size qz1)); replace HO334 := aM (Kd.R_elder' (rr_ HO334.out) (Kd.R_base ho13) hb); replace HB := bS_ hb; clear hb ho13) | ((with_reducible refine gate_dst (N := 27) rfl ?_); refine Kd.R_make (Kd.int .i64) _ 3 rfl (N := 27) rfl 24 _ _ rfl ji7 rfl rfl Try.underlying24 (.int .i64 0) 8 info3 rfl (by decide) (by omega) 0 (ok := fun _ => True) (okp := fun _ => True) rfl (fun _ hk => hk) trivial (dt_) (Nat.le_trans (Nat.mul_le_mul_right _ (dt_ : ji7.toNat ≤ 35184372088832)) (by omega)) (Below.refl _ _) (Nat.le_refl _) ?_; intro v339 w14 ho15 hb hg_ hnew_; clear hg_ hnew_; (first | rw [← Ny338.out] at ho15 | (simp only [Int.reduceToNat] at ho15; rw [← Ny338.out] at ho15)); have HO340 := aM (Kd.R_lower (Kd.R_new' (Kd.R_new' ho15 (Kd.R_lt (rr_ HO334.out))) (Kd.R_lt (rr_ HO337.out))) (below_size qz1)); replace HO334 := aM (Kd.R_elder' (rr_ HO334.out) (Kd.R_base ho15) hb); replace HO337 := aM (Kd.R_elder' (rr_ HO337.out) (Kd.R_base ho15) hb); replace HB := bS_ hb; clear hb ho15))
 go_loopg [8] k (fun kq v8 w' => ∃ (x5_1 : List Int) (x6_1 : List Int) (x7_1 : List Int) (x8_1 : Int), v8 = .int .i64 x8_1 ∧ Aside0 (spec_l4Least.l0 kq l0 (l0.length : Int) ((rd_L1 l0 0).length : Int) x5_1 x6_1 x7_1 x8_1 = some r) ∧ Aside0 (kq ≤ k) ∧ Aside0 (Kd.R (Kd.int .i64) 3 w' w.heap.size (fun k_ => some k_ ≠ (v336 : Value).ownBlock ∧ some k_ ≠ (v339 : Value).ownBlock) v333 x5_1) ∧ Aside0 (Kd.R (Kd.int .i64) 3 w' w.heap.size (fun k_ => some k_ ≠ (v333 : Value).ownBlock ∧ some k_ ≠ (v339 : Value).ownBlock) v336 x6_1) ∧ Aside0 (Kd.R (Kd.int .i64) 3 w' w.heap.size (fun k_ => some k_ ≠ (v333 : Value).ownBlock ∧ some k_ ≠ (v336 : Value).ownBlock) v339 x7_1) ∧ Aside0 (Below w.heap.size w w'))
 case atStart => exact ⟨(y332), (y335), (y338), (1), qz5, H', ⟨Nat.le_refl _⟩, ⟨by (with_reducible repeat (first | apply Kd.R_alloc | apply Kd.R_drewN | apply Kd.R_drew)); exact Kd.R_mono HO334.out (fun _ hk => ⟨hk.1.2, hk.2⟩)⟩, ⟨by (with_reducible repeat (first | apply Kd.R_alloc | apply Kd.R_drewN | apply Kd.R_drew)); exact Kd.R_mono HO337.out (fun _ hk => ⟨hk.1.2, hk.2⟩)⟩, ⟨by (with_reducible repeat (first | apply Kd.R_alloc | apply Kd.R_drewN | apply Kd.R_drew)); exact Kd.R_mono HO340.out (fun _ hk => ⟨hk.1.2, hk.2⟩)⟩, ⟨qz1⟩⟩
 case round =>
  clear H'
  try clear c2
  try clear c2b0
  try clear c2b1
  try clear c2b2
  try clear p2
  try clear c3
  try clear c3b0
  try clear c3b1
  try clear p3
  try clear q3
  try clear hx3
  try clear qi3
  try clear c5
  try clear c5b0
  try clear c5b1
  try clear c6
  try clear c6b0
  try clear c6b1
  try clear p6
  try clear c8
  try clear c8b0
  try clear c8b1
  try clear c9
  try clear c9b0
  try clear c9b1
  try clear hx331_0
  try clear p331
  try clear q331
  obtain ⟨x5_1, x6_1, x7_1, x8_1, rfl, HA, HK1, HO_5, HO_6, HO_7, HB⟩ := hrel
  cases gk with
  | zero => exact absurd HA.out (by simp [spec_l4Least.l0])
  | succ k1 =>
   have H := HA.out
   clear HA
   simp only [spec_l4Least.l0] at H
   by_cases c16 : x8_1 ≤ (l0.length : Int)
   {
   rw [if_pos c16] at H
   have c16b0 := decide_eq_true c16
   clear c16
   by_cases c17 : 0 < (x7_1.length : Int)
   {
   rw [if_pos c17] at H
   have c17b0 := decide_eq_true c17
   have c17b1 : decide (0 < x7_1.length) = true := decide_eq_true (by omega)
   clear c17
   obtain ⟨y341, hy341⟩ : ∃ y_ : List Int, y_ = (x7_1.set (0 : Int).toNat x8_1) := ⟨_, rfl⟩
   replace H : ((spec_l4Grow.f k1 l0 x5_1 x6_1 y341 ((rd_L1 l0 0).length : Int)).bind fun bt342 => (spec_l4Least.l0 k1 l0 (l0.length : Int) ((rd_L1 l0 0).length : Int) bt342.1 bt342.2.1 bt342.2.2 (wrap64 (x8_1 + 1)))) = some r := by first | (rw [hy341]; with_reducible exact H) | (have H2_ := (Option.bind_some _ _).symm.trans H; rw [hy341]; with_reducible exact H2_) | (have H2_ := (Option.bind_some _ _).symm.trans H; with_reducible exact H2_) | with_reducible exact H | (rw [hy341]; exact H) | exact H
   have Ny341 := aM hy341
   clear hy341
   replace H := Option.bind_eq_some_iff.mp H
   obtain ⟨⟨t342, t343, t344⟩, A190, H⟩ := H
   replace H : (spec_l4Least.l0 k1 l0 (l0.length : Int) ((rd_L1 l0 0).length : Int) t342 t343 t344 (wrap64 (x8_1 + 1))) = some r := H
   have A19 := aM A190
   clear A190
   have H' := aM H
   clear H
   have p18 : 0 ≤ (0 : Int) := (by omega)
   have q18 : (0 : Int) < ((x7_1.length : Int) : Int) := dt_
   have qi18 : (0 < x7_1.length) = True := eq_true (by omega)
   obtain ⟨go18, co18, eo18, gb18, gl18, cl18, HG18⟩ := Kd.R_form HO_7.out (by omega)
   (first | cases eo18 | (injection eo18 with ea_ en_ ec_; (first | subst ea_ | (injection ea_ with ea_; subst ea_)); subst ec_; clear en_))
   have GB18 := aM gb18
   have GG18 := aM HG18
   clear gb18 gl18 HG18
   obtain ⟨hx18_0, hf18_0⟩ := Kd.R_celln 0 HO_7.out (0 : Int) p18 q18
   (try rw [show ((0 : Int)).toNat = 0 from rfl] at hx18_0)
   (try simp only [Nat.reduceMul, Nat.zero_mul, Nat.zero_add, Nat.reduceAdd] at hx18_0)
   (try rw [show ((0 : Int)).toNat = 0 from rfl] at hf18_0)
   (try simp only [Nat.reduceMul, Nat.zero_mul, Nat.zero_add, Nat.reduceAdd] at hf18_0)
   replace p18 := eq_true p18
   replace q18 := eq_true q18
   have HP20 := Kd.R_putg HO_7.out (0 : Int) x8_1
   go_wp2_with (first | ((with_reducible refine gate_store (t := 3) (p := 35) rfl ?_); refine store_event (t := 3) (p := 35) (v := ?vo_w21) (w1 := (wr.setCell ⟨go18, (0 : Int).toNat, none⟩ (.int .i64 x8_1))) ?hg ?ho ?hn ?hr ?_; (case ho => rfl); (case hg => rfl); (case hn => rfl); (case hr => exact qz11); intro w21 hw; have hg : wr.grownBy w21 (some go18) := (by rw [hw]; exact HP20.2); have hp_ : Kd.R (Kd.int .i64) 3 w21 w.heap.size (fun k_ => some k_ ≠ (v333 : Value).ownBlock ∧ some k_ ≠ (v336 : Value).ownBlock) (.slice (some ⟨go18, 0, none⟩) x7_1.length co18) y341 := (by rw [hw, Ny341.out]; exact HP20.1); clear HP20; replace HO_5 := aM (Kd.R_after (v := (.slice (some ⟨go18, 0, none⟩) x7_1.length co18)) (v1 := (.slice (some ⟨go18, 0, none⟩) x7_1.length co18)) (ok := (fun k_ => some k_ ≠ (v336 : Value).ownBlock)) (rr_ HO_5.out) hg (.inl rfl)); replace HO_6 := aM (Kd.R_after (v := (.slice (some ⟨go18, 0, none⟩) x7_1.length co18)) (v1 := (.slice (some ⟨go18, 0, none⟩) x7_1.length co18)) (ok := (fun k_ => some k_ ≠ (v333 : Value).ownBlock)) (rr_ HO_6.out) hg (.inl rfl)); replace HO_7 := aM (hp_); replace HB := aM ((by rw [hw]; exact below_set (HB.out) GB18.out : Below w.heap.size w w21)); clear hg hw hp_; obtain ⟨Ao22, co22, eo22⟩ := Kd.R_slice HO_5.out; subst eo22; obtain ⟨Ao23, co23, eo23⟩ := Kd.R_slice HO_6.out; subst eo23) | ((with_reducible refine gate_callee (f := 67) rfl ?_); refine goesL_ (some 41) rfl rfl Try.func67 (by kernel_rfl) rfl #[.slice (some ad331) l0.length c0, .slice Ao22 x5_1.length co22, .slice Ao23 x6_1.length co23, .slice (some ⟨go18, 0, none⟩) x7_1.length co18, .int .i64 ((rd_L1 l0 0).length : Int)] rfl qz3 ?_; (with_reducible refine (spec_l4Grow.calls k1 _ _ l0 (fun k_ => some k_ = (.slice Ao22 x5_1.length co22 : Value).ownBlock) (.slice Ao22 x5_1.length co22) x5_1 (fun k_ => some k_ = (.slice Ao23 x6_1.length co23 : Value).ownBlock) (.slice Ao23 x6_1.length co23) x6_1 (fun k_ => some k_ = (.slice (some ⟨go18, 0, none⟩) x7_1.length co18 : Value).ownBlock) (.slice (some ⟨go18, 0, none⟩) x7_1.length co18) y341 ((rd_L1 l0 0).length : Int) t342 t343 t344 w _ ?side1 ?side2 ?side3 ?side4 ?side5 ?side6 ?side7 ?side8 ?side9 ?side10 ?side11 ?side12 A19.out).mono ?_); (case side1 => exact qz1); (case side2 => exact Kd.C_kept_came (Kd.heap_slice 3 (Kd.heap_int .i64)) HR0.out qz1 (fun k_ hs_ => Or.elim hs_ (fun e_ => (fun e_ => Kd.R_base HO_5.out k_ e_.symm) e_) (fun e_ => Or.elim e_ (fun e_ => (fun e_ => Kd.R_base HO_6.out k_ e_.symm) e_) (fun e_ => (fun e_ => Kd.R_base HO_7.out k_ e_.symm) e_)))); (case side3 => exact HC0.out); (case side4 => exact Kd.R_tight rfl HO_5.out); (case side5 => exact fun k_ e_ => (HO_5.out.1 k_ e_.symm).1); (case side6 => exact fun k_ e_ => (HO_5.out.1 k_ e_.symm).2); (case side7 => exact Kd.R_tight rfl HO_6.out); (case side8 => exact fun k_ e_ => (HO_6.out.1 k_ e_.symm).1); (case side9 => exact fun k_ e_ => (HO_6.out.1 k_ e_.symm).2); (case side10 => exact Kd.R_tight rfl HO_7.out); (case side11 => exact fun k_ e_ => (HO_7.out.1 k_ e_.symm).1); (case side12 => exact fun k_ e_ => (HO_7.out.1 k_ e_.symm).2); rintro e w24 ⟨rfl, hy0, hy1, hy2, hb, hkp⟩; refine ⟨_, rfl, ?_⟩; replace HO_5 := aM (Kd.R_reok rfl hy0 (fun k_ e_ => HO_5.out.1 k_ e_)); replace HO_6 := aM (Kd.R_reok rfl hy1 (fun k_ e_ => HO_6.out.1 k_ e_)); replace HO_7 := aM (Kd.R_reok rfl hy2 (fun k_ e_ => HO_7.out.1 k_ e_)); replace HB := aM (hb); (try clear hb); (try clear hkp); (try clear hy0); (try clear hy1); (try clear hy2)))
   go_roundg k1
   case measure => have := HK1.out; omega
   case rel => exact ⟨(t342), (t343), (t344), (wrap64 (x8_1 + 1)), qz5, H', ⟨by have := HK1.out; omega⟩, ⟨rm_ HO_5.out⟩, ⟨rm_ HO_6.out⟩, ⟨rm_ HO_7.out⟩, ⟨qz1⟩⟩
   }
   {
   exact an_ c17 H
   }
   }
   {
   rw [if_neg c16] at H
   have c16b0 := decide_eq_false c16
   clear c16
   have H' := aM H
   clear H
   go_wp2
   go_loopg [9, 10] k1 (fun kq v9 v10 w' => ∃ (x9_2 : Int) (x10_2 : Int), v9 = .int .i64 x9_2 ∧ v10 = .int .i64 x10_2 ∧ Aside0 (spec_l4Least.l1 kq l0 ((rd_L1 l0 0).length : Int) x7_1 x9_2 x10_2 = some r) ∧ Aside0 (kq ≤ k1) ∧ Aside0 (Kd.R (Kd.int .i64) 3 w' w.heap.size (fun _ => True) v339 x7_1) ∧ Aside0 (Below w.heap.size w w'))
   case atStart => exact ⟨(0), (1), qz5, qz5, H', ⟨Nat.le_refl _⟩, ⟨by (with_reducible repeat (first | apply Kd.R_alloc | apply Kd.R_drewN | apply Kd.R_drew)); exact Kd.R_mono HO_7.out (fun _ hk => trivial)⟩, ⟨qz1⟩⟩
   case round =>
    clear H'
    try clear c1
    try clear p1
    try clear q1
    try clear hx1
    try clear qi1
    try clear hf1
    try clear c2
    try clear c2b0
    try clear c2b1
    try clear c2b2
    try clear p2
    try clear c3
    try clear c3b0
    try clear c3b1
    try clear p3
    try clear q3
    try clear hx3
    try clear qi3
    try clear c5
    try clear c5b0
    try clear c5b1
    try clear c6
    try clear c6b0
    try clear c6b1
    try clear p6
    try clear c8
    try clear c8b0
    try clear c8b1
    try clear c9
    try clear c9b0
    try clear c9b1
    try clear c16
    try clear c16b0
    try clear c17
    try clear c17b0
    try clear c17b1
    try clear p18
    try clear q18
    try clear hx18
    try clear qi18
    try clear hf18
    try clear hx18_0
    try clear hx331_0
    try clear p331
    try clear q331
    obtain ⟨x9_2, x10_2, rfl, rfl, HA, HK2, HO_7, HB⟩ := hrel
    cases gk with
    | zero => exact absurd HA.out (by simp [spec_l4Least.l1])
    | succ k2 =>
     have H := HA.out
     clear HA
     simp only [spec_l4Least.l1] at H
     by_cases c25 : x10_2 ≤ ((rd_L1 l0 0).length : Int)
     {
     rw [if_pos c25] at H
     have c25b0 := decide_eq_true c25
     clear c25
     by_cases c26 : 0 ≤ x10_2
     {
     rw [if_pos c26] at H
     have c26b0 := decide_eq_true c26
     clear c26
     by_cases c27 : x10_2 < (x7_1.length : Int)
     {
     rw [if_pos c27] at H
     have c27b0 := decide_eq_true c27
     clear c27
     by_cases c28 : (rd x7_1 x10_2) > 0
     {
     rw [if_pos c28] at H
     have c28b0 := decide_eq_true c28
     clear c28
     obtain ⟨ji29, hji29⟩ : ∃ j_ : Int, (wrap64 ((rd x7_1 x10_2) - 1)) = j_ := ⟨_, rfl⟩
     replace H : (if 0 ≤ (ji29) then (if (ji29) < (l0.length : Int) then (if 0 ≤ (wrap64 (x10_2 - 1)) then (if (wrap64 (x10_2 - 1)) < ((rd_L1 l0 (ji29)).length : Int) then (spec_l4Least.l1 k2 l0 ((rd_L1 l0 0).length : Int) x7_1 (wrap64 (x9_2 + (rd (rd_L1 l0 (ji29)) (wrap64 (x10_2 - 1))))) (wrap64 (x10_2 + 1))) else (none)) else (none)) else (none)) else (none)) = some r := by first | (rw [hji29] at H; exact H) | (simp only [hji29] at H ⊢; exact H)
     have hji29w : (IntKind.i64.wrap ((rd x7_1 x10_2) - 1)) = ji29 := (i64_w _).trans hji29
     by_cases c30 : 0 ≤ (ji29)
     {
     rw [if_pos c30] at H
     have c30b0 := decide_eq_true c30
     clear c30
     by_cases c31 : (ji29) < (l0.length : Int)
     {
     rw [if_pos c31] at H
     have c31b0 := decide_eq_true c31
     clear c31
     obtain ⟨ji32, hji32⟩ : ∃ j_ : Int, (wrap64 (x10_2 - 1)) = j_ := ⟨_, rfl⟩
     replace H : (if 0 ≤ (ji32) then (if (ji32) < ((rd_L1 l0 (ji29)).length : Int) then (spec_l4Least.l1 k2 l0 ((rd_L1 l0 0).length : Int) x7_1 (wrap64 (x9_2 + (rd (rd_L1 l0 (ji29)) (ji32)))) (wrap64 (x10_2 + 1))) else (none)) else (none)) = some r := by first | (rw [hji32] at H; exact H) | (simp only [hji32] at H ⊢; exact H)
     have hji32w : (IntKind.i64.wrap (x10_2 - 1)) = ji32 := (i64_w _).trans hji32
     by_cases c33 : 0 ≤ (ji32)
     {
     rw [if_pos c33] at H
     have c33b0 := decide_eq_true c33
     clear c33
     by_cases c34 : (ji32) < ((rd_L1 l0 (ji29)).length : Int)
     {
     rw [if_pos c34] at H
     have c34b0 := decide_eq_true c34
     clear c34
     have H' := aM H
     clear H
     obtain ⟨Ao35, co35, eo35⟩ := Kd.R_slice HO_7.out
     subst eo35
     have p345 : 0 ≤ (x10_2 : Int) := dt_
     have q345 : x10_2 < (x7_1.length : Int) := dt_
     obtain ⟨ad345, e345, hx345_0⟩ := Kd.at_int (Kd.R_reads' HO_7.out).2.2 x10_2 p345 q345
     cases e345
     replace p345 := eq_true p345
     replace q345 := eq_true q345
     have p346 : 0 ≤ (x10_2 : Int) := dt_
     have q346 : x10_2 < (x7_1.length : Int) := dt_
     obtain ⟨ad346, e346, hx346_0⟩ := Kd.at_int (Kd.R_reads' HO_7.out).2.2 x10_2 p346 q346
     obtain rfl : ad345 = ad346 := (by injection e346)
     replace p346 := eq_true p346
     replace q346 := eq_true q346
     have p347 : 0 ≤ ((ji29) : Int) := dt_
     have q347 : (ji29) < (l0.length : Int) := dt_
     obtain ⟨ad347, A347_0, c347_0, e347, hx347_0, hl347_0, hi347_0⟩ := at_L1 HR0.out (ji29) p347 q347
     obtain rfl : ad331 = ad347 := (by injection e347)
     replace hx347_0 := cB_ hx347_0
     have HR347_0 := aM hi347_0
     have HC347_0 := aM hl347_0
     clear hi347_0 hl347_0
     replace p347 := eq_true p347
     replace q347 := eq_true q347
     have p348 : 0 ≤ ((ji32) : Int) := dt_
     have q348 : (ji32) < ((rd_L1 l0 (ji29)).length : Int) := dt_
     obtain ⟨ad348, e348, hx348_0⟩ := Kd.at_int HR347_0.out (ji32) p348 q348
     cases e348
     replace hx348_0 := cB_ hx348_0
     replace p348 := eq_true p348
     replace q348 := eq_true q348
     go_wp2
     go_roundg k2
     case measure => have := HK1.out; have := HK2.out; omega
     case rel => exact ⟨(wrap64 (x9_2 + (rd (rd_L1 l0 (ji29)) (ji32)))), (wrap64 (x10_2 + 1)), (by first | rfl | (simp; done) | (simp only [← hji29, ← hji32] <;> (first | rfl | simp)) | (simp [*]; done)), qz5, H', ⟨by have := HK1.out; have := HK2.out; omega⟩, ⟨rm_ HO_7.out⟩, ⟨qz1⟩⟩
     }
     {
     exact an_ c34 H
     }
     }
     {
     exact an_ c33 H
     }
     }
     {
     exact an_ c31 H
     }
     }
     {
     exact an_ c30 H
     }
     }
     {
     rw [if_neg c28] at H
     have c28b0 := decide_eq_false c28
     clear c28
     have H' := aM H
     clear H
     obtain ⟨Ao36, co36, eo36⟩ := Kd.R_slice HO_7.out
     subst eo36
     have p345 : 0 ≤ (x10_2 : Int) := dt_
     have q345 : x10_2 < (x7_1.length : Int) := dt_
     obtain ⟨ad345, e345, hx345_0⟩ := Kd.at_int (Kd.R_reads' HO_7.out).2.2 x10_2 p345 q345
     cases e345
     replace p345 := eq_true p345
     replace q345 := eq_true q345
     go_wp2
     go_roundg k2
     case measure => have := HK1.out; have := HK2.out; omega
     case rel => exact ⟨(x9_2), (wrap64 (x10_2 + 1)), qz5, qz5, H', ⟨by have := HK1.out; have := HK2.out; omega⟩, ⟨rm_ HO_7.out⟩, ⟨qz1⟩⟩
     }
     }
     {
     exact an_ c27 H
     }
     }
     {
     exact an_ c26 H
     }
     }
     {
     rw [if_neg c25] at H
     have c25b0 := decide_eq_false c25
     clear c25
     obtain rfl := Option.some.inj H
     simp only [Option.some.injEq, Prod.mk.injEq] at H
     obtain ⟨rfl⟩ := H
     go_wp2
     go_ret
     exact ⟨by first | rfl | (simp [errW_none, errW_some] <;> rfl) | (simp only [← hji4, ← hji7]; first | rfl | (simp [errW_none, errW_some] <;> rfl)) | (simp [*, errW_none, errW_some] <;> rfl), qz1⟩
     }
   }
 }
 {
 exact an_ c9 H
 }
 }
 {
 exact an_ c8 H
 }
 }
 {
 exact an_ c6 H
 }
 }
 {
 exact an_ c5 H
 }
 }
 {
 exact an_ c3 H

 }
 }
end Go.Proofs.Ytbebfhlejnidkaa.PFnProved
