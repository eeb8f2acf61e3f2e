-- Made by a program of this session out of the translation. Lean checks it.
import Derived.Test.YtbebfhlejnidkaaPFnSoundx0
import Derived.Test.YtbebfhlejnidkaaPFnSoundx2
namespace Go.Proofs.Ytbebfhlejnidkaa.PFnSound
open Go.RowKit Go.Proofs.YtbebfhlejnidkaaW.PrintWords Go.Proofs.YtbebfhlejnidkaaW.PrintLast Go.Proofs.YtbebfhlejnidkaaW.PrintMore
attribute [local go_sem] max2_int min2_int max_two min_two max_three min_three max_four min_four   -- for this text's walks alone
set_option linter.unusedVariables false
set_option linter.unusedSimpArgs false

/-! ### spec_l3Apart: function 62 -/
mutual
def spec_l3Apart.l0 : Nat → Int → Int → List Bool → List Int → Int → Int → Int → List Int → Option (Bool)
 | 0, _, _, _, _, _, _, _, _ => none
 | k + 1, x1, x2, x7, x8, x9, x553000, x553001, x553002 => if x9 < (x8.length : Int) then (if 0 ≤ x9 then ((spec_l1Near.f k x553000 x553001 x553002 (rd x8 x9) false).bind fun t562 => (spec_l3Apart.l1 k x1 x2 x7 x8 x9 t562 0 x553000 x553001 x553002)) else (none)) else (if 0 ≤ x2 then (if x2 < (x7.length : Int) then (some (!(rdOf false x7 x2))) else (none)) else (none))
def spec_l3Apart.l1 : Nat → Int → Int → List Bool → List Int → Int → List Int → Int → Int → Int → List Int → Option (Bool)
 | 0, _, _, _, _, _, _, _, _, _, _ => none
 | k + 1, x1, x2, x7, x8, x9, x10, x11, x553000, x553001, x553002 => if x11 < (x10.length : Int) then (if 0 ≤ x9 then (if x9 < (x8.length : Int) then (if (rd x8 x9) = x1 then (if 0 ≤ x11 then (if (rd x10 x11) = x2 then (spec_l3Apart.l1 k x1 x2 x7 x8 x9 x10 (wrap64 (x11 + 1)) x553000 x553001 x553002) else (if (rd x8 x9) = x2 then (if ((rd x10 x11) = x1) then (spec_l3Apart.l1 k x1 x2 x7 x8 x9 x10 (wrap64 (x11 + 1)) x553000 x553001 x553002) else (if 0 ≤ (rd x10 x11) then (if (rd x10 x11) < (x7.length : Int) then (if (rdOf false x7 (rd x10 x11) = true) then (spec_l3Apart.l1 k x1 x2 x7 x8 x9 x10 (wrap64 (x11 + 1)) x553000 x553001 x553002) else (if x8.length < 17592186044416 then (spec_l3Apart.l1 k x1 x2 (x7.set ((rd x10 x11) : Int).toNat true) (x8 ++ [rd x10 x11]) x9 x10 (wrap64 (x11 + 1)) x553000 x553001 x553002) else (none))) else (none)) else (none))) else (if 0 ≤ (rd x10 x11) then (if (rd x10 x11) < (x7.length : Int) then (if (rdOf false x7 (rd x10 x11) = true) then (spec_l3Apart.l1 k x1 x2 x7 x8 x9 x10 (wrap64 (x11 + 1)) x553000 x553001 x553002) else (if x8.length < 17592186044416 then (spec_l3Apart.l1 k x1 x2 (x7.set ((rd x10 x11) : Int).toNat true) (x8 ++ [rd x10 x11]) x9 x10 (wrap64 (x11 + 1)) x553000 x553001 x553002) else (none))) else (none)) else (none)))) else (none)) else (if (rd x8 x9) = x2 then (if 0 ≤ x11 then (if ((rd x10 x11) = x1) then (spec_l3Apart.l1 k x1 x2 x7 x8 x9 x10 (wrap64 (x11 + 1)) x553000 x553001 x553002) else (if 0 ≤ (rd x10 x11) then (if (rd x10 x11) < (x7.length : Int) then (if (rdOf false x7 (rd x10 x11) = true) then (spec_l3Apart.l1 k x1 x2 x7 x8 x9 x10 (wrap64 (x11 + 1)) x553000 x553001 x553002) else (if x8.length < 17592186044416 then (spec_l3Apart.l1 k x1 x2 (x7.set ((rd x10 x11) : Int).toNat true) (x8 ++ [rd x10 x11]) x9 x10 (wrap64 (x11 + 1)) x553000 x553001 x553002) else (none))) else (none)) else (none))) else (none)) else (if 0 ≤ x11 then (if 0 ≤ (rd x10 x11) then (if (rd x10 x11) < (x7.length : Int) then (if (rdOf false x7 (rd x10 x11) = true) then (spec_l3Apart.l1 k x1 x2 x7 x8 x9 x10 (wrap64 (x11 + 1)) x553000 x553001 x553002) else (if x8.length < 17592186044416 then (spec_l3Apart.l1 k x1 x2 (x7.set ((rd x10 x11) : Int).toNat true) (x8 ++ [rd x10 x11]) x9 x10 (wrap64 (x11 + 1)) x553000 x553001 x553002) else (none))) else (none)) else (none)) else (none)))) else (none)) else (none)) else (spec_l3Apart.l0 k x1 x2 x7 x8 (wrap64 (x9 + 1)) x553000 x553001 x553002)
end
def spec_l3Apart.f (k : Nat) (a0_0 : Int) (a0_1 : Int) (l0_2 : List Int) (a1 : Int) (a2 : Int) : Option (Bool) := if 0 ≤ (l0_2.length : Int) then (if ((l0_2.length : Int) : Int).toNat ≤ 281474976710656 then ((some (List.replicate ((l0_2.length : Int) : Int).toNat false : List Bool)).bind fun y553 => (if 0 ≤ a1 then (if a1 < (y553.length : Int) then (spec_l3Apart.l0 k a1 a2 (y553.set (a1 : Int).toNat true) (([a1] : List Int)) 0 a0_0 a0_1 l0_2) else (none)) else (none))) else (none)) else (none)
theorem spec_l3Apart.mono_l : ∀ k, (∀ y0 y1 y2 y3 y4 y5 y6 y7, LeO (spec_l3Apart.l0 k y0 y1 y2 y3 y4 y5 y6 y7) (spec_l3Apart.l0 (k + 1) y0 y1 y2 y3 y4 y5 y6 y7)) ∧ (∀ y0 y1 y2 y3 y4 y5 y6 y7 y8 y9, LeO (spec_l3Apart.l1 k y0 y1 y2 y3 y4 y5 y6 y7 y8 y9) (spec_l3Apart.l1 (k + 1) y0 y1 y2 y3 y4 y5 y6 y7 y8 y9))
 | 0 => ⟨fun _ _ _ _ _ _ _ _ r h => by simp [spec_l3Apart.l0] at h, fun _ _ _ _ _ _ _ _ _ _ r h => by simp [spec_l3Apart.l1] at h⟩
 | k + 1 => by
  obtain ⟨ih0, ih1⟩ := spec_l3Apart.mono_l k
  refine ⟨?_, ?_⟩
  {
  intro y0 y1 y2 y3 y4 y5 y6 y7
  unfold spec_l3Apart.l0
  repeat' first
  | (with_reducible first | exact ih0 _ _ _ _ _ _ _ _ | exact ih1 _ _ _ _ _ _ _ _ _ _ | exact spec_l1Near.mono _ _ _ _ _ _ | exact LeO.refl _ | exact LeO.none _ | refine LeO.ite ?_ ?_ | refine LeO.bind ?_ (fun _ => ?_))
  | exact ih0 _ _ _ _ _ _ _ _
  | exact ih1 _ _ _ _ _ _ _ _ _ _
  | exact spec_l1Near.mono _ _ _ _ _ _
  | exact LeO.none _
  | refine LeO.ite ?_ ?_
  | refine LeO.bind ?_ (fun _ => ?_)
  }
  {
  intro y0 y1 y2 y3 y4 y5 y6 y7 y8 y9
  unfold spec_l3Apart.l1
  repeat' first
  | (with_reducible first | exact ih0 _ _ _ _ _ _ _ _ | exact ih1 _ _ _ _ _ _ _ _ _ _ | exact spec_l1Near.mono _ _ _ _ _ _ | exact LeO.refl _ | exact LeO.none _ | refine LeO.ite ?_ ?_ | refine LeO.bind ?_ (fun _ => ?_))
  | exact ih0 _ _ _ _ _ _ _ _
  | exact ih1 _ _ _ _ _ _ _ _ _ _
  | exact spec_l1Near.mono _ _ _ _ _ _
  | exact LeO.none _
  | refine LeO.ite ?_ ?_
  | refine LeO.bind ?_ (fun _ => ?_)
  }
theorem spec_l3Apart.mono : ∀ a0 a1 a2 a3 a4 k, LeO (spec_l3Apart.f k a0 a1 a2 a3 a4) (spec_l3Apart.f (k + 1) a0 a1 a2 a3 a4) := by
 intro a0 a1 a2 a3 a4 k
 obtain ⟨ih0, ih1⟩ := spec_l3Apart.mono_l k
 unfold spec_l3Apart.f
 repeat' first
  | (with_reducible first | exact ih0 _ _ _ _ _ _ _ _ | exact ih1 _ _ _ _ _ _ _ _ _ _ | exact spec_l1Near.mono _ _ _ _ _ _ | exact LeO.refl _ | exact LeO.none _ | refine LeO.ite ?_ ?_ | refine LeO.bind ?_ (fun _ => ?_))
  | exact ih0 _ _ _ _ _ _ _ _
  | exact ih1 _ _ _ _ _ _ _ _ _ _
  | exact spec_l1Near.mono _ _ _ _ _ _
  | exact LeO.none _
  | refine LeO.ite ?_ ?_
  | refine LeO.bind ?_ (fun _ => ?_)
set_option maxHeartbeats 8000000 in
set_option maxRecDepth 100000 in
theorem spec_l3Apart.calls (k : Nat) (a0_0 : Int) (a0_1 : Int) (A0_2 : Option Addr) (c0_2 : Nat) (l0_2 : List Int) (a1 : Int) (a2 : Int) (r : Bool) (w : World) (hr0_2 : Kd.C (Kd.int .i64) w A0_2 l0_2.length l0_2) (hc0_2 : l0_2.length ≤ c0_2) (h : spec_l3Apart.f k a0_0 a0_1 l0_2 a1 a2 = some r) :
  Calls Try.prog 62 #[.agg #[.int .i64 a0_0, .int .i64 a0_1, .slice A0_2 l0_2.length c0_2], .int .i64 a1, .int .i64 a2] w fun e w' => e = .returned (.bool r) ∧ Below w.heap.size w w' := by
 have hu43 := Try.underlying43
 have HR0_2 := aM hr0_2
 have HC0_2 := aM hc0_2
 clear hr0_2 hc0_2
 have HB := aM (Below.refl w.heap.size w)
 have H : (if 0 ≤ (l0_2.length : Int) then (if ((l0_2.length : Int) : Int).toNat ≤ 281474976710656 then ((some (List.replicate ((l0_2.length : Int) : Int).toNat false : List Bool)).bind fun y553 => (if 0 ≤ a1 then (if a1 < (y553.length : Int) then (spec_l3Apart.l0 k a1 a2 (y553.set (a1 : Int).toNat true) (([a1] : List Int)) 0 a0_0 a0_1 l0_2) else (none)) else (none))) else (none)) else (none)) = some r := h
 clear h
 by_cases c4 : 0 ≤ (l0_2.length : Int)
 {
 rw [if_pos c4] at H
 have c4b0 := eq_true c4
 have c4b1 := decide_eq_true c4
 clear c4
 by_cases c5 : ((l0_2.length : Int) : Int).toNat ≤ 281474976710656
 {
 rw [if_pos c5] at H
 have c5b0 := eq_true c5
 have c5b1 := decide_eq_true c5
 clear c5
 obtain ⟨y553, hy553⟩ : ∃ y_ : List Bool, y_ = (List.replicate ((l0_2.length : Int) : Int).toNat false) := ⟨_, rfl⟩
 replace H : (if 0 ≤ a1 then (if a1 < (y553.length : Int) then (spec_l3Apart.l0 k a1 a2 (y553.set (a1 : Int).toNat true) (([a1] : List Int)) 0 a0_0 a0_1 l0_2) else (none)) else (none)) = some r := by first | (rw [hy553]; with_reducible exact H) | (have H2_ := (Option.bind_some _ _).symm.trans H; rw [hy553]; with_reducible exact H2_) | (have H2_ := (Option.bind_some _ _).symm.trans H; with_reducible exact H2_) | with_reducible exact H | (rw [hy553]; exact H) | exact H
 have Ny553 := aM hy553
 clear hy553
 by_cases c6 : 0 ≤ a1
 {
 rw [if_pos c6] at H
 have c6b0 := decide_eq_true c6
 clear c6
 by_cases c7 : a1 < (y553.length : Int)
 {
 rw [if_pos c7] at H
 have c7b0 := decide_eq_true c7
 clear c7
 obtain ⟨y556, hy556⟩ : ∃ y_ : List Bool, y_ = (y553.set (a1 : Int).toNat true) := ⟨_, rfl⟩
 replace H : (spec_l3Apart.l0 k a1 a2 y556 (([a1] : List Int)) 0 a0_0 a0_1 l0_2) = some r := by first | (rw [hy556]; with_reducible exact H) | (have H2_ := (Option.bind_some _ _).symm.trans H; rw [hy556]; with_reducible exact H2_) | (have H2_ := (Option.bind_some _ _).symm.trans H; with_reducible exact H2_) | with_reducible exact H | (rw [hy556]; exact H) | exact H
 have Ny556 := aM hy556
 clear hy556
 obtain ⟨y557, hy557⟩ : ∃ y_ : List Int, y_ = (([a1] : List Int)) := ⟨_, rfl⟩
 replace H : (spec_l3Apart.l0 k a1 a2 y556 y557 0 a0_0 a0_1 l0_2) = some r := by first | (rw [hy557]; with_reducible exact H) | (have H2_ := (Option.bind_some _ _).symm.trans H; rw [hy557]; with_reducible exact H2_) | (have H2_ := (Option.bind_some _ _).symm.trans H; with_reducible exact H2_) | with_reducible exact H | (rw [hy557]; exact H) | exact H
 have Ny557 := aM hy557
 clear hy557
 have H' := aM H
 clear H
 go_enter Try.func62, Try.ntmps62
 go_wp2_with (first | ((with_reducible refine gate_dst (N := 3) rfl ?_); refine bx_ 3 #[.int .i64 a0_0, .int .i64 a0_1, .slice A0_2 l0_2.length c0_2] 43 ?_; intro gb552 hg w9 hbox hb; have n0_ := aM (below_step qz1 hb); have n1_ := aM (hbox); have n2_ := aM ((by rw [hg]; exact (below_size qz1) : w.heap.size ≤ gb552)); have n3_ := aM ((by rw [hg]; exact (below_size qz1) : w.heap.size ≤ gb552)); clear HB; have HB := n0_; have BK552 := n1_; have GW552 := n2_; have GE552 := n3_; clear n0_ n1_ n2_ n3_; clear hb hbox hg; obtain ⟨hcz10_0, hcz10_1, hcz10_2, hfz10_0, hfz10_1, hfz10_2⟩ := b6_ BK552.out) | ((with_reducible refine gate_dst (N := 16) rfl ?_); refine Kd.R_make Kd.bool _ 4 rfl (N := 16) rfl 36 _ _ rfl (l0_2.length : Int) rfl rfl Try.underlying36 (.bool false) 1 info4 rfl (by decide) (by omega) false (ok := fun _ => True) (okp := fun _ => True) rfl (fun _ hk => hk) trivial (of_decide_eq_true qz2) (Nat.le_trans (Nat.mul_le_mul_right _ (of_decide_eq_true qz2 : (l0_2.length : Int).toNat ≤ 281474976710656)) (by omega)) (Below.refl _ _) (Nat.le_refl _) ?_; intro v554 w11 ho12 hb hg_ hnew_; clear hg_ hnew_; (first | rw [← Ny553.out] at ho12 | (simp only [Int.reduceToNat] at ho12; rw [← Ny553.out] at ho12)); have n0_ := aM (Kd.R_lower ho12 (below_size qz18)); have n1_ := aM (blk_below (bk_ BK552.out) hb); have n2_ := aM (below_step qz18 hb); clear BK552 HB; have HO555 := n0_; have BK552 := n1_; have HB := n2_; clear n0_ n1_ n2_; clear hb ho12; have p8 : 0 ≤ (a1 : Int) := of_decide_eq_true qz2; have q8 : (a1 : Int) < ((y553.length : Int) : Int) := of_decide_eq_true qz2; obtain ⟨go8, co8, eo8, gb8, gl8, cl8, HG8⟩ := Kd.R_form HO555.out (by omega); (first | cases eo8 | (injection eo8 with ea_ en_ ec_; (first | subst ea_ | (injection ea_ with ea_; subst ea_)); subst ec_; clear en_)); have GB8 := aM gb8; have GG8 := aM HG8; clear gb8 gl8 HG8; obtain ⟨hx8_0, hf8_0⟩ := Kd.R_celln false HO555.out (a1 : Int) p8 q8; replace p8 := eq_true p8; replace q8 := eq_true q8; obtain ⟨hy13_, hz13_⟩ := Kd.R_celln false HO555.out (a1 : Int) (of_decide_eq_true qz2) (of_decide_eq_true qz2); have HP13 := Kd.R_putg HO555.out (a1 : Int) true) | ((with_reducible refine gate_store (t := 4) (p := 19) rfl ?_); refine store_event (t := 4) (p := 19) (v := ?vo_w14) (w1 := (w11.setCell ⟨go8, (a1 : Int).toNat, none⟩ (.bool true))) ?hg ?ho ?hn ?hr ?_; (case ho => rfl); (case hg => rfl); (case hn => rfl); (case hr => exact qz28); intro w14 hw; have hg : w11.grownBy w14 (some go8) := (by rw [hw]; exact HP13.2); have hp_ : Kd.R Kd.bool 4 w14 w.heap.size (fun _ => True) (.slice (some ⟨go8, 0, none⟩) y553.length co8) y556 := (by rw [hw, Ny556.out]; exact HP13.1); clear HP13; have n0_ := aM (blk_grown (bk_ BK552.out) hg (Kd.R_ne HO555.out BK552.out (by decide))); have n1_ := aM (hp_); have n2_ := aM ((by rw [hw]; exact below_set (HB.out) GB8.out : Below w.heap.size w w14)); clear BK552 HO555 HB; have BK552 := n0_; have HO555 := n1_; have HB := n2_; clear n0_ n1_ n2_; clear hg hw hp_) | ((with_reducible refine gate_dst (N := 21) rfl ?_); refine Kd.R_lit (Kd.int .i64) _ 3 ?hg (N := 21) ?hd (xs := ([a1] : List Int)) (inner := [.int .i64 a1]) (ok := fun _ => True) (okp := fun _ => True) ?hr ?hp (fun _ hk => hk) trivial (Below.refl _ _) (Nat.le_refl _) (by simp) ?_; (case hd => rfl); (case hg => rfl); (case hr => exact qz28); (case hp => exact qz73); intro v558 w15 ho16 hb hg_ hnew_; clear hg_ hnew_; (first | rw [← Ny557.out] at ho16 | (simp only [Int.reduceToNat] at ho16; rw [← Ny557.out] at ho16)); have n0_ := aM (Kd.R_below (rr_ HO555.out) hb); have n1_ := aM (Kd.R_lower ho16 (below_size qz18)); have n2_ := aM (blk_below (bk_ BK552.out) hb); have n3_ := aM (below_step qz18 hb); clear HO555 BK552 HB; have HO555 := n0_; have HO559 := n1_; have BK552 := n2_; have HB := n3_; clear n0_ n1_ n2_ n3_; clear hb ho16))
 go_loopg [8, 9] k (fun kq v8 v9 w' => ∃ (x7_1 : List Bool) (x8_1 : List Int) (x9_1 : Int), v9 = .int .i64 x9_1 ∧ Aside0 (spec_l3Apart.l0 kq a1 a2 x7_1 x8_1 x9_1 a0_0 a0_1 l0_2 = some r) ∧ Aside0 (kq ≤ k) ∧ Aside0 (Kd.R Kd.bool 4 w' w.heap.size (fun _ => True) (.slice (some ⟨go8, 0, none⟩) y553.length co8) x7_1) ∧ Aside0 (Kd.R (Kd.int .i64) 3 w' w.heap.size (fun _ => True) v8 x8_1) ∧ Aside0 (w'.heap[gb552]? = some (.cells #[.int .i64 a0_0, .int .i64 a0_1, (.slice A0_2 l0_2.length c0_2)] 43 (0, 0))) ∧ Aside0 (Below w.heap.size w w'))
 case atStart => exact ⟨(y556), (y557), (0), qz5, H', ⟨Nat.le_refl _⟩, ⟨rr_ HO555.out⟩, ⟨rr_ HO559.out⟩, ⟨bk_ BK552.out⟩, ⟨by repeat (first | (with_reducible first | exact HB.out | apply below_alloc | apply pw_below_drewN | apply below_drew1 | refine below_set ?_ GE552.out) | exact HB.out)⟩⟩
 case round =>
  clear H'
  try clear p2
  try clear c4
  try clear c4b0
  try clear c4b1
  try clear c5
  try clear c5b0
  try clear c5b1
  try clear c6
  try clear c6b0
  try clear c7
  try clear c7b0
  try clear p8
  try clear q8
  try clear hx8
  try clear hf8
  try clear hcz10_0
  try clear hcz10_1
  try clear hcz10_2
  try clear hfz10_0
  try clear hfz10_1
  try clear hfz10_2
  try clear hx8_0
  try clear p8
  try clear q8
  obtain ⟨x7_1, x8_1, x9_1, rfl, HA, HK1, HO_7, HO_8, BK552, HB⟩ := hrel
  have hl7_1 := (Kd.R_reads' HO_7.out).1
  rw [hl7_1] at HO_7
  (try simp only [hl7_1])
  (try simp only [hl7_1] at BK552)
  (try simp only [hl7_1] at HO_8)
  cases gk with
  | zero => exact absurd HA.out (by simp [spec_l3Apart.l0])
  | succ k1 =>
   have H := HA.out
   clear HA
   simp only [spec_l3Apart.l0] at H
   by_cases c17 : x9_1 < (x8_1.length : Int)
   {
   rw [if_pos c17] at H
   have c17b0 := decide_eq_true c17
   (try (have c17b0q7_1 := c17b0; simp only [hl7_1] at c17b0q7_1))
   clear c17
   by_cases c18 : 0 ≤ x9_1
   {
   rw [if_pos c18] at H
   have c18b0 := decide_eq_true c18
   clear c18
   replace H := Option.bind_eq_some_iff.mp H
   obtain ⟨t562, A190, H⟩ := H
   replace H : (spec_l3Apart.l1 k1 a1 a2 x7_1 x8_1 x9_1 t562 0 a0_0 a0_1 l0_2) = some r := H
   have A19 := aM A190
   clear A190
   have H' := aM H
   clear H
   obtain ⟨Ao20, co20, eo20⟩ := Kd.R_slice HO_8.out
   subst eo20
   try go_wp2
   have n0_ := aM (Kd.R_drew HO_7.out)
   have n1_ := aM (Kd.R_drew HO_8.out)
   have n2_ := aM (blk_drew BK552.out)
   have n3_ := aM (below_drew1 HB.out)
   clear HO_7
   clear HO_8
   clear BK552
   clear HB
   have HO_7 := n0_
   have HO_8 := n1_
   have BK552 := n2_
   have HB := n3_
   clear n0_ n1_ n2_ n3_
   have p561 : 0 ≤ (x9_1 : Int) := of_decide_eq_true qz2
   have q561 : x9_1 < (x8_1.length : Int) := of_decide_eq_true qz2
   obtain ⟨ad561, e561, hx561_0⟩ := Kd.at_int (Kd.R_reads' HO_8.out).2.2 x9_1 p561 q561
   cases e561
   replace p561 := eq_true p561
   replace q561 := eq_true q561
   refine start_ (n := 7) (S := fun w' => w'.cell? ⟨gb552, 0, none⟩ = some (.int .i64 a0_0) ∧ w'.cell? ⟨gb552, 1, none⟩ = some (.int .i64 a0_1) ∧ w'.cell? ⟨gb552, 2, none⟩ = some (.slice A0_2 l0_2.length c0_2) ∧ w'.cell? (ad561.add (x9_1).toNat) = some (.int .i64 (rd x8_1 x9_1))) (ds := []) #[false, false, false, false, false, false, false] (by kernel_rfl) rfl rfl ⟨(blk_cell BK552.out 0).trans rfl, (blk_cell BK552.out 1).trans rfl, (blk_cell BK552.out 2).trans rfl, hx561_0⟩ (fun hHeld => ?_)
   generalize wr.drew = w21 at HO_7 HO_8 BK552 HB hx561_0 hHeld ⊢
   refine pure_ (i := 1) (N := some 29) (v := ?_) (a' := ?_) #[false, true, false, false, false, false, false] rfl rfl (by kernel_rfl) qzd (Or.inl ⟨by rfl, ?_⟩) ?_ ?_
   rotate_left
   {
   intro w'
   go_simp
   with_reducible rfl
   }
   rotate_left
   {
   simp only [qzs]
   rfl
   }
   refine pure_ (i := 2) (N := some 30) (v := ?_) (a' := ?_) #[false, true, true, false, false, false, false] rfl rfl (by kernel_rfl) qzd (Or.inl ⟨by rfl, ?_⟩) ?_ ?_
   rotate_left
   {
   intro w'
   go_simp
   with_reducible rfl
   }
   rotate_left
   {
   simp only [qzs]
   rfl
   }
   refine pure_ (i := 3) (N := some 31) (v := ?_) (a' := ?_) #[false, true, true, true, false, false, false] rfl rfl (by kernel_rfl) qzd (Or.inl ⟨by rfl, ?_⟩) ?_ ?_
   rotate_left
   {
   intro w'
   go_simp
   with_reducible rfl
   }
   rotate_left
   {
   simp only [qzs]
   rfl
   }
   refine take_ (i := 0) (N := some 28) (v := ?_) (a' := ?_) #[true, true, true, true, false, false, false] rfl rfl (by kernel_rfl) qzd (Or.inl ⟨by rfl, ?_⟩) hHeld ?_ ?_
   rotate_left
   {
   rintro w' ⟨s0, s1, s2, s3⟩
   go_simp
   with_reducible rfl
   }
   rotate_left
   {
   simp only [qzs]
   rfl
   }
   refine take_ (i := 4) (N := some 32) (v := ?_) (a' := ?_) #[true, true, true, true, true, false, false] rfl rfl (by kernel_rfl) qzd (Or.inl ⟨by rfl, ?_⟩) hHeld ?_ ?_
   rotate_left
   {
   rintro w' ⟨s0, s1, s2, s3⟩
   go_simp
   with_reducible rfl
   }
   rotate_left
   {
   simp only [qzs]
   rfl
   }
   refine one_ (i := 5) (N := some 33) #[true, true, true, true, true, true, false] rfl rfl (by kernel_rfl) (by decide) (fun K hK => ?_)
   refine goes_ Try.func61 (by kernel_rfl) rfl #[.agg #[.int .i64 a0_0, .int .i64 a0_1, .slice A0_2 l0_2.length c0_2], .int .i64 (rd x8_1 x9_1), .bool false] (by rfl) rfl rfl qz3 ?_
   with_reducible refine (spec_l1Near.calls k1 a0_0 a0_1 _ _ l0_2 (rd x8_1 x9_1) false t562 _ ?side1 ?side2 A19.out).mono ?_
   (case side1 => exact qz4)
   (case side2 => exact qz69)
   rintro e w22 ⟨v563, rfl, ho0, hb⟩
   have HS3_ := (hb.cell (World.block_lt_of_cell? _ _ (hHeld.2.2.2))).trans (hHeld.2.2.2)
   refine ⟨_, rfl, ?_⟩
   have n0_ := aM (Kd.R_below (rr_ HO_7.out) hb)
   have n1_ := aM (Kd.R_elder' (rr_ HO_8.out) (Kd.R_base ho0) hb)
   have n2_ := aM (Kd.R_lower (Kd.R_new' ho0 (Kd.R_lt (rr_ HO_8.out))) (below_size qz18))
   have n3_ := aM (blk_below (bk_ BK552.out) hb)
   have n4_ := aM (below_step qz18 hb)
   clear HO_7
   clear HO_8
   clear BK552
   clear HB
   have HO_7 := n0_
   have HO_8 := n1_
   have HO564 := n2_
   have BK552 := n3_
   have HB := n4_
   clear n0_ n1_ n2_ n3_ n4_
   (try clear hb)
   (try clear hb2)
   (try clear hk)
   (try clear hi)
   (try clear ho0)
   refine hK.out _ _ ⟨(blk_cell BK552.out 0).trans rfl, (blk_cell BK552.out 1).trans rfl, (blk_cell BK552.out 2).trans rfl, HS3_⟩ (fun hHeld => ?_)
   clear hK K
   refine norm_ (a' := ?_) ?_ ?_
   rotate_left
   {
   show Act.put _ (some 33) _ = _
   simp only [qzs]
   rfl
   }
   refine pure_ (i := 6) (N := some 10) (v := ?_) (a' := ?_) #[true, true, true, true, true, true, true] rfl rfl (by kernel_rfl) qzd (Or.inl ⟨by rfl, ?_⟩) ?_ ?_
   rotate_left
   {
   intro w'
   go_simp
   with_reducible rfl
   }
   rotate_left
   {
   simp only [qzs]
   rfl
   }
   refine done_ (by kernel_rfl) ?_
   try go_wp2
   go_loopg [8, 11] k1 (fun kq v8 v11 w' => ∃ (x7_2 : List Bool) (x8_2 : List Int) (x11_2 : Int), v11 = .int .i64 x11_2 ∧ Aside0 (spec_l3Apart.l1 kq a1 a2 x7_2 x8_2 x9_1 t562 x11_2 a0_0 a0_1 l0_2 = some r) ∧ Aside0 (kq ≤ k1) ∧ Aside0 (Kd.R Kd.bool 4 w' w.heap.size (fun _ => True) (.slice (some ⟨go8, 0, none⟩) x7_1.length co8) x7_2) ∧ Aside0 (Kd.R (Kd.int .i64) 3 w' w.heap.size (fun k_ => some k_ ≠ (v563 : Value).ownBlock) v8 x8_2) ∧ Aside0 (Kd.R (Kd.int .i64) 3 w' w.heap.size (fun k_ => some k_ ≠ (v8 : Value).ownBlock) v563 t562) ∧ Aside0 (w'.heap[gb552]? = some (.cells #[.int .i64 a0_0, .int .i64 a0_1, (.slice A0_2 l0_2.length c0_2)] 43 (0, 0))) ∧ Aside0 (Below w.heap.size w w'))
   case atStart => exact ⟨(x7_1), (x8_1), (0), qz5, H', ⟨Nat.le_refl _⟩, ⟨by (try simp only [hl7_1]); exact rr_ HO_7.out⟩, ⟨by (try simp only [hl7_1]); (with_reducible repeat (first | apply Kd.R_alloc | apply Kd.R_drewN | apply Kd.R_drew)); exact Kd.R_mono HO_8.out (fun _ hk => hk.2)⟩, ⟨by (try simp only [hl7_1]); (with_reducible repeat (first | apply Kd.R_alloc | apply Kd.R_drewN | apply Kd.R_drew)); exact Kd.R_mono HO564.out (fun _ hk => hk.2)⟩, ⟨by (try simp only [hl7_1]); exact bk_ BK552.out⟩, ⟨by repeat (first | (with_reducible first | exact HB.out | apply below_alloc | apply pw_below_drewN | apply below_drew1 | refine below_set ?_ GE552.out) | exact HB.out)⟩⟩
   case round =>
    clear H'
    try clear c1
    try clear p2
    try clear c4
    try clear c4b0
    try clear c4b1
    try clear c5
    try clear c5b0
    try clear c5b1
    try clear p5
    try clear q5
    try clear hx5
    try clear c6
    try clear c6b0
    try clear c7
    try clear c7b0
    try clear p8
    try clear q8
    try clear hx8
    try clear hf8
    try clear c17
    try clear c17b0
    try clear c18
    try clear c18b0
    try clear hcz10_0
    try clear hcz10_1
    try clear hcz10_2
    try clear hfz10_0
    try clear hfz10_1
    try clear hfz10_2
    try clear hx561_0
    try clear hx8_0
    try clear p2
    try clear p561
    try clear p8
    try clear q561
    try clear q8
    obtain ⟨x7_2, x8_2, x11_2, rfl, HA, HK2, HO_7, HO_8, HO_10, BK552, HB⟩ := hrel
    have hl7_2 := (Kd.R_reads' HO_7.out).1
    rw [hl7_2] at HO_7
    (try simp only [hl7_2])
    (try simp only [hl7_2] at BK552)
    (try simp only [hl7_2] at HO_8)
    (try simp only [hl7_2] at HO_10)
    cases gk with
    | zero => exact absurd HA.out (by simp [spec_l3Apart.l1])
    | succ k2 =>
     have H := HA.out
     clear HA
     simp only [spec_l3Apart.l1] at H
     by_cases c23 : x11_2 < (t562.length : Int)
     {
     rw [if_pos c23] at H
     have c23b0 := decide_eq_true c23
     (try (have c23b0q7_1 := c23b0; simp only [hl7_1] at c23b0q7_1))
     (try (have c23b0q7_2 := c23b0; simp only [hl7_2] at c23b0q7_2))
     clear c23
     by_cases c24 : 0 ≤ x9_1
     {
     rw [if_pos c24] at H
     have c24b0 := decide_eq_true c24
     clear c24
     by_cases c25 : x9_1 < (x8_2.length : Int)
     {
     rw [if_pos c25] at H
     have c25b0 := decide_eq_true c25
     (try (have c25b0q7_1 := c25b0; simp only [hl7_1] at c25b0q7_1))
     (try (have c25b0q7_2 := c25b0; simp only [hl7_2] at c25b0q7_2))
     clear c25
     by_cases c26 : (rd x8_2 x9_1) = a1
     {
     rw [if_pos c26] at H
     have c26b0 := beq_iff_eq.mpr c26
     have c26b1 := bne_eq_false_iff_eq.mpr c26
     clear c26
     by_cases c27 : 0 ≤ x11_2
     {
     rw [if_pos c27] at H
     have c27b0 := decide_eq_true c27
     clear c27
     by_cases c28 : (rd t562 x11_2) = a2
     {
     rw [if_pos c28] at H
     have c28b0 := beq_iff_eq.mpr c28
     have c28b1 := bne_eq_false_iff_eq.mpr c28
     clear c28
     have H' := aM H
     clear H
     obtain ⟨Ao29, co29, eo29⟩ := Kd.R_slice HO_10.out
     subst eo29
     obtain ⟨Ao30, co30, eo30⟩ := Kd.R_slice HO_8.out
     subst eo30
     have p565 : 0 ≤ (x9_1 : Int) := of_decide_eq_true qz2
     have q565 : x9_1 < (x8_2.length : Int) := of_decide_eq_true qz2
     obtain ⟨ad565, e565, hx565_0⟩ := Kd.at_int (Kd.R_reads' HO_8.out).2.2 x9_1 p565 q565
     cases e565
     replace p565 := eq_true p565
     replace q565 := eq_true q565
     have p566 : 0 ≤ (x11_2 : Int) := of_decide_eq_true qz2
     have q566 : x11_2 < (t562.length : Int) := of_decide_eq_true qz2
     obtain ⟨ad566, e566, hx566_0⟩ := Kd.at_int (Kd.R_reads' HO_10.out).2.2 x11_2 p566 q566
     cases e566
     replace p566 := eq_true p566
     replace q566 := eq_true q566
     go_wp2
     (try simp only [← hl7_2])
     go_roundg k2
     case measure => have := HK1.out; have := HK2.out; omega
     case rel => exact ⟨(x7_2), (x8_2), (wrap64 (x11_2 + 1)), qz5, H', ⟨by have := HK1.out; have := HK2.out; omega⟩, ⟨by (try simp only [hl7_1]); (try simp only [hl7_2]); exact rm_ HO_7.out⟩, ⟨by (try simp only [hl7_1]); (try simp only [hl7_2]); exact rm_ HO_8.out⟩, ⟨by (try simp only [hl7_1]); (try simp only [hl7_2]); exact rm_ HO_10.out⟩, ⟨by (try simp only [hl7_1]); (try simp only [hl7_2]); exact bk_ BK552.out⟩, ⟨by repeat (first | (with_reducible first | exact HB.out | apply below_alloc | apply pw_below_drewN | apply below_drew1 | refine below_set ?_ GE552.out) | exact HB.out)⟩⟩
     }
     {
     rw [if_neg c28] at H
     have c28b0 := beq_eq_false_iff_ne.mpr c28
     have c28b1 := bne_iff_ne.mpr c28
     by_cases c31 : (rd x8_2 x9_1) = a2
     {
     rw [if_pos c31] at H
     have c31b0 := beq_iff_eq.mpr c31
     have c31b1 := bne_eq_false_iff_eq.mpr c31
     clear c31
     by_cases c32 : ((rd t562 x11_2) = a1)
     {
     rw [if_pos c32] at H
     have c32b0 := beq_iff_eq.mpr c32
     have c32b1 := bne_eq_false_iff_eq.mpr c32
     clear c32
     have H' := aM H
     clear H
     obtain ⟨Ao33, co33, eo33⟩ := Kd.R_slice HO_10.out
     subst eo33
     obtain ⟨Ao34, co34, eo34⟩ := Kd.R_slice HO_8.out
     subst eo34
     have p565 : 0 ≤ (x9_1 : Int) := of_decide_eq_true qz2
     have q565 : x9_1 < (x8_2.length : Int) := of_decide_eq_true qz2
     obtain ⟨ad565, e565, hx565_0⟩ := Kd.at_int (Kd.R_reads' HO_8.out).2.2 x9_1 p565 q565
     cases e565
     replace p565 := eq_true p565
     replace q565 := eq_true q565
     have p566 : 0 ≤ (x11_2 : Int) := of_decide_eq_true qz2
     have q566 : x11_2 < (t562.length : Int) := of_decide_eq_true qz2
     obtain ⟨ad566, e566, hx566_0⟩ := Kd.at_int (Kd.R_reads' HO_10.out).2.2 x11_2 p566 q566
     cases e566
     replace p566 := eq_true p566
     replace q566 := eq_true q566
     have p567 : 0 ≤ (x9_1 : Int) := of_decide_eq_true qz2
     have q567 : x9_1 < (x8_2.length : Int) := of_decide_eq_true qz2
     obtain ⟨ad567, e567, hx567_0⟩ := Kd.at_int (Kd.R_reads' HO_8.out).2.2 x9_1 p567 q567
     obtain rfl : ad565 = ad567 := (by injection e567)
     replace p567 := eq_true p567
     replace q567 := eq_true q567
     have p568 : 0 ≤ (x11_2 : Int) := of_decide_eq_true qz2
     have q568 : x11_2 < (t562.length : Int) := of_decide_eq_true qz2
     obtain ⟨ad568, e568, hx568_0⟩ := Kd.at_int (Kd.R_reads' HO_10.out).2.2 x11_2 p568 q568
     obtain rfl : ad566 = ad568 := (by injection e568)
     replace p568 := eq_true p568
     replace q568 := eq_true q568
     go_wp2
     (try simp only [← hl7_2])
     go_roundg k2
     case measure => have := HK1.out; have := HK2.out; omega
     case rel => exact ⟨(x7_2), (x8_2), (wrap64 (x11_2 + 1)), qz5, H', ⟨by have := HK1.out; have := HK2.out; omega⟩, ⟨by (try simp only [hl7_1]); (try simp only [hl7_2]); exact rm_ HO_7.out⟩, ⟨by (try simp only [hl7_1]); (try simp only [hl7_2]); exact rm_ HO_8.out⟩, ⟨by (try simp only [hl7_1]); (try simp only [hl7_2]); exact rm_ HO_10.out⟩, ⟨by (try simp only [hl7_1]); (try simp only [hl7_2]); exact bk_ BK552.out⟩, ⟨by repeat (first | (with_reducible first | exact HB.out | apply below_alloc | apply pw_below_drewN | apply below_drew1 | refine below_set ?_ GE552.out) | exact HB.out)⟩⟩
     }
     {
     rw [if_neg c32] at H
     have c32b0 := beq_eq_false_iff_ne.mpr c32
     have c32b1 := bne_iff_ne.mpr c32
     by_cases c35 : 0 ≤ (rd t562 x11_2)
     {
     rw [if_pos c35] at H
     have c35b0 := decide_eq_true c35
     clear c35
     by_cases c36 : (rd t562 x11_2) < (x7_2.length : Int)
     {
     rw [if_pos c36] at H
     have c36b0 := decide_eq_true c36
     (try (have c36b0q7_1 := c36b0; simp only [hl7_1] at c36b0q7_1))
     (try (have c36b0q7_2 := c36b0; simp only [hl7_2] at c36b0q7_2))
     clear c36
     obtain ⟨bq37, hbq37⟩ : ∃ b_ : Bool, b_ = (rdOf false x7_2 (rd t562 x11_2)) := ⟨_, rfl⟩
     replace H : (if (bq37 = true) then (spec_l3Apart.l1 k2 a1 a2 x7_2 x8_2 x9_1 t562 (wrap64 (x11_2 + 1)) a0_0 a0_1 l0_2) else (if x8_2.length < 17592186044416 then (spec_l3Apart.l1 k2 a1 a2 (x7_2.set ((rd t562 x11_2) : Int).toNat true) (x8_2 ++ [rd t562 x11_2]) x9_1 t562 (wrap64 (x11_2 + 1)) a0_0 a0_1 l0_2) else (none))) = some r := by rw [← hbq37] at H; exact H
     have Nbq37 := aM hbq37
     clear hbq37
     by_cases c38 : (bq37 = true)
     {
     subst c38
     rw [if_pos rfl] at H
     have H' := aM H
     clear H
     obtain ⟨Ao39, co39, eo39⟩ := Kd.R_slice HO_10.out
     subst eo39
     obtain ⟨Ao40, co40, eo40⟩ := Kd.R_slice HO_8.out
     subst eo40
     have p565 : 0 ≤ (x9_1 : Int) := of_decide_eq_true qz2
     have q565 : x9_1 < (x8_2.length : Int) := of_decide_eq_true qz2
     obtain ⟨ad565, e565, hx565_0⟩ := Kd.at_int (Kd.R_reads' HO_8.out).2.2 x9_1 p565 q565
     cases e565
     replace p565 := eq_true p565
     replace q565 := eq_true q565
     have p566 : 0 ≤ (x11_2 : Int) := of_decide_eq_true qz2
     have q566 : x11_2 < (t562.length : Int) := of_decide_eq_true qz2
     obtain ⟨ad566, e566, hx566_0⟩ := Kd.at_int (Kd.R_reads' HO_10.out).2.2 x11_2 p566 q566
     cases e566
     replace p566 := eq_true p566
     replace q566 := eq_true q566
     have p567 : 0 ≤ (x9_1 : Int) := of_decide_eq_true qz2
     have q567 : x9_1 < (x8_2.length : Int) := of_decide_eq_true qz2
     obtain ⟨ad567, e567, hx567_0⟩ := Kd.at_int (Kd.R_reads' HO_8.out).2.2 x9_1 p567 q567
     obtain rfl : ad565 = ad567 := (by injection e567)
     replace p567 := eq_true p567
     replace q567 := eq_true q567
     have p568 : 0 ≤ (x11_2 : Int) := of_decide_eq_true qz2
     have q568 : x11_2 < (t562.length : Int) := of_decide_eq_true qz2
     obtain ⟨ad568, e568, hx568_0⟩ := Kd.at_int (Kd.R_reads' HO_10.out).2.2 x11_2 p568 q568
     obtain rfl : ad566 = ad568 := (by injection e568)
     replace p568 := eq_true p568
     replace q568 := eq_true q568
     have p569 : 0 ≤ (x11_2 : Int) := of_decide_eq_true qz2
     have q569 : x11_2 < (t562.length : Int) := of_decide_eq_true qz2
     obtain ⟨ad569, e569, hx569_0⟩ := Kd.at_int (Kd.R_reads' HO_10.out).2.2 x11_2 p569 q569
     obtain rfl : ad566 = ad569 := (by injection e569)
     replace p569 := eq_true p569
     replace q569 := eq_true q569
     have p570 : 0 ≤ ((rd t562 x11_2) : Int) := of_decide_eq_true qz2
     have q570 : (rd t562 x11_2) < (x7_2.length : Int) := of_decide_eq_true qz2
     obtain ⟨ad570, e570, hx570_0⟩ := Kd.at_bool (Kd.R_reads' HO_7.out).2.2 (rd t562 x11_2) p570 q570
     (try rw [← Nbq37.out] at hx570_0)
     obtain rfl : (⟨go8, 0, none⟩ : Addr) = ad570 := (by injection e570)
     (first | simp only [add_plain] at hx570_0 | simp only [add_at] at hx570_0 | simp only [Addr.add, Nat.zero_add] at hx570_0 | skip)
     replace p570 := eq_true p570
     replace q570 := eq_true q570
     go_wp2
     (try simp only [← hl7_2])
     go_roundg k2
     case measure => have := HK1.out; have := HK2.out; omega
     case rel => exact ⟨(x7_2), (x8_2), (wrap64 (x11_2 + 1)), qz5, H', ⟨by have := HK1.out; have := HK2.out; omega⟩, ⟨by (try simp only [hl7_1]); (try simp only [hl7_2]); exact rm_ HO_7.out⟩, ⟨by (try simp only [hl7_1]); (try simp only [hl7_2]); exact rm_ HO_8.out⟩, ⟨by (try simp only [hl7_1]); (try simp only [hl7_2]); exact rm_ HO_10.out⟩, ⟨by (try simp only [hl7_1]); (try simp only [hl7_2]); exact bk_ BK552.out⟩, ⟨by repeat (first | (with_reducible first | exact HB.out | apply below_alloc | apply pw_below_drewN | apply below_drew1 | refine below_set ?_ GE552.out) | exact HB.out)⟩⟩
     }
     {
     replace c38 := Bool.eq_false_iff.mpr c38
     subst c38
     rw [if_neg (show ¬ (false = true) by decide)] at H
     obtain ⟨y572, hy572⟩ : ∃ y_ : List Bool, y_ = (x7_2.set ((rd t562 x11_2) : Int).toNat true) := ⟨_, rfl⟩
     replace H : (if x8_2.length < 17592186044416 then (spec_l3Apart.l1 k2 a1 a2 y572 (x8_2 ++ [rd t562 x11_2]) x9_1 t562 (wrap64 (x11_2 + 1)) a0_0 a0_1 l0_2) else (none)) = some r := by first | (rw [hy572]; with_reducible exact H) | (have H2_ := (Option.bind_some _ _).symm.trans H; rw [hy572]; with_reducible exact H2_) | (have H2_ := (Option.bind_some _ _).symm.trans H; with_reducible exact H2_) | with_reducible exact H | (rw [hy572]; exact H) | exact H
     have Ny572 := aM hy572
     clear hy572
     by_cases c42 : x8_2.length < 17592186044416
     {
     rw [if_pos c42] at H
     have LMc42 := aM c42
     clear c42
     obtain ⟨y574, hy574⟩ : ∃ y_ : List Int, y_ = (x8_2 ++ [rd t562 x11_2]) := ⟨_, rfl⟩
     replace H : (spec_l3Apart.l1 k2 a1 a2 y572 y574 x9_1 t562 (wrap64 (x11_2 + 1)) a0_0 a0_1 l0_2) = some r := by first | (rw [hy574]; with_reducible exact H) | (have H2_ := (Option.bind_some _ _).symm.trans H; rw [hy574]; with_reducible exact H2_) | (have H2_ := (Option.bind_some _ _).symm.trans H; with_reducible exact H2_) | with_reducible exact H | (rw [hy574]; exact H) | exact H
     have Ny574 := aM hy574
     clear hy574
     have H' := aM H
     clear H
     obtain ⟨Ao43, co43, eo43⟩ := Kd.R_slice HO_10.out
     subst eo43
     obtain ⟨Ao44, co44, eo44⟩ := Kd.R_slice HO_8.out
     subst eo44
     have p565 : 0 ≤ (x9_1 : Int) := of_decide_eq_true qz2
     have q565 : x9_1 < (x8_2.length : Int) := of_decide_eq_true qz2
     obtain ⟨ad565, e565, hx565_0⟩ := Kd.at_int (Kd.R_reads' HO_8.out).2.2 x9_1 p565 q565
     cases e565
     replace p565 := eq_true p565
     replace q565 := eq_true q565
     have p566 : 0 ≤ (x11_2 : Int) := of_decide_eq_true qz2
     have q566 : x11_2 < (t562.length : Int) := of_decide_eq_true qz2
     obtain ⟨ad566, e566, hx566_0⟩ := Kd.at_int (Kd.R_reads' HO_10.out).2.2 x11_2 p566 q566
     cases e566
     replace p566 := eq_true p566
     replace q566 := eq_true q566
     have p567 : 0 ≤ (x9_1 : Int) := of_decide_eq_true qz2
     have q567 : x9_1 < (x8_2.length : Int) := of_decide_eq_true qz2
     obtain ⟨ad567, e567, hx567_0⟩ := Kd.at_int (Kd.R_reads' HO_8.out).2.2 x9_1 p567 q567
     obtain rfl : ad565 = ad567 := (by injection e567)
     replace p567 := eq_true p567
     replace q567 := eq_true q567
     have p568 : 0 ≤ (x11_2 : Int) := of_decide_eq_true qz2
     have q568 : x11_2 < (t562.length : Int) := of_decide_eq_true qz2
     obtain ⟨ad568, e568, hx568_0⟩ := Kd.at_int (Kd.R_reads' HO_10.out).2.2 x11_2 p568 q568
     obtain rfl : ad566 = ad568 := (by injection e568)
     replace p568 := eq_true p568
     replace q568 := eq_true q568
     have p569 : 0 ≤ (x11_2 : Int) := of_decide_eq_true qz2
     have q569 : x11_2 < (t562.length : Int) := of_decide_eq_true qz2
     obtain ⟨ad569, e569, hx569_0⟩ := Kd.at_int (Kd.R_reads' HO_10.out).2.2 x11_2 p569 q569
     obtain rfl : ad566 = ad569 := (by injection e569)
     replace p569 := eq_true p569
     replace q569 := eq_true q569
     have p570 : 0 ≤ ((rd t562 x11_2) : Int) := of_decide_eq_true qz2
     have q570 : (rd t562 x11_2) < (x7_2.length : Int) := of_decide_eq_true qz2
     obtain ⟨ad570, e570, hx570_0⟩ := Kd.at_bool (Kd.R_reads' HO_7.out).2.2 (rd t562 x11_2) p570 q570
     (try rw [← Nbq37.out] at hx570_0)
     obtain rfl : (⟨go8, 0, none⟩ : Addr) = ad570 := (by injection e570)
     (first | simp only [add_plain] at hx570_0 | simp only [add_at] at hx570_0 | simp only [Addr.add, Nat.zero_add] at hx570_0 | skip)
     replace p570 := eq_true p570
     replace q570 := eq_true q570
     have p571 : 0 ≤ (x11_2 : Int) := of_decide_eq_true qz2
     have q571 : x11_2 < (t562.length : Int) := of_decide_eq_true qz2
     obtain ⟨ad571, e571, hx571_0⟩ := Kd.at_int (Kd.R_reads' HO_10.out).2.2 x11_2 p571 q571
     obtain rfl : ad566 = ad571 := (by injection e571)
     replace p571 := eq_true p571
     replace q571 := eq_true q571
     have p41 : 0 ≤ ((rd t562 x11_2) : Int) := of_decide_eq_true qz2
     have q41 : ((rd t562 x11_2) : Int) < ((x7_2.length : Int) : Int) := of_decide_eq_true qz2
     obtain ⟨hx41_0, hf41_0⟩ := Kd.R_celln false HO_7.out ((rd t562 x11_2) : Int) p41 q41
     replace p41 := eq_true p41
     replace q41 := eq_true q41
     obtain ⟨hy45_, hz45_⟩ := Kd.R_celln false HO_7.out ((rd t562 x11_2) : Int) (of_decide_eq_true qz2) (of_decide_eq_true qz2)
     have HP45 := Kd.R_putg HO_7.out ((rd t562 x11_2) : Int) true
     go_wp2_with (first | ((with_reducible refine gate_store (t := 4) (p := 87) rfl ?_); refine store_event (t := 4) (p := 87) (v := ?vo_w46) (w1 := (wr.setCell ⟨go8, ((rd t562 x11_2) : Int).toNat, none⟩ (.bool true))) ?hg ?ho ?hn ?hr ?_; (case ho => rfl); (case hg => rfl); (case hn => rfl); (case hr => exact qz28); intro w46 hw; have hg : wr.grownBy w46 (some go8) := (by rw [hw]; exact HP45.2); have hp_ : Kd.R Kd.bool 4 w46 w.heap.size (fun _ => True) (.slice (some ⟨go8, 0, none⟩) x7_2.length co8) y572 := (by rw [hw, Ny572.out]; exact HP45.1); clear HP45; have n0_ := aM (hp_); have n1_ := aM (Kd.R_over' (v := (.slice (some ⟨go8, 0, none⟩) x7_2.length co8)) (rr_ HO_8.out) (Kd.R_typed HO_7.out) (by decide) hg); have n2_ := aM (Kd.R_over' (v := (.slice (some ⟨go8, 0, none⟩) x7_2.length co8)) (rr_ HO_10.out) (Kd.R_typed HO_7.out) (by decide) hg); have n3_ := aM (blk_grown (bk_ BK552.out) hg (Kd.R_ne HO_7.out BK552.out (by decide))); have n4_ := aM ((by rw [hw]; exact below_set (HB.out) GB8.out : Below w.heap.size w w46)); clear HO_7 HO_8 HO_10 BK552 HB; have HO_7 := n0_; have HO_8 := n1_; have HO_10 := n2_; have BK552 := n3_; have HB := n4_; clear n0_ n1_ n2_ n3_ n4_; clear hg hw hp_; have p573 : 0 ≤ (x11_2 : Int) := of_decide_eq_true qz2; have q573 : x11_2 < (t562.length : Int) := of_decide_eq_true qz2; obtain ⟨ad573, e573, hx573_0⟩ := Kd.at_int (Kd.R_reads' HO_10.out).2.2 x11_2 p573 q573; obtain rfl : ad566 = ad573 := (by injection e573); replace p573 := eq_true p573; replace q573 := eq_true q573) | ((with_reducible refine gate_builtin (b := .append) (xs := #[.tmp 88, .tmp 93]) rfl ?_); at_builtin; refine Kd.R_append (Kd.int .i64) (w0 := w) w.heap.size rfl (.tmp 88) (.tmp 93) 24 3 (.int .i64 0) 8 rfl Try.underlying24 info3 rfl (by decide) (by omega) (.slice (some ad565) x8_2.length co44) x8_2 (rd t562 x11_2) [.int .i64 (rd t562 x11_2)] (fun k_ => some k_ ≠ (.slice (some ad566) t562.length co43 : Value).ownBlock) (fun _ => False) rfl rfl ?aP (fun _ hk => hk.elim) ?aF ?aO ?aB ?aS ?aL ?_; (case aP => exact rfl); (case aB => exact qz18); (case aF => exact (fun k_ hk => Kd.fresh' (Kd.R_lt (rr_ HO_10.out)) k_ hk)); (case aO => exact (rr_ HO_8.out)); (case aS => exact (below_size qz18)); (case aL => have := LMc42.out; omega); intro v575 w47 ho hb hg hat; rw [← Ny574.out] at ho; have n0_ := aM (Kd.R_over' (rr_ HO_7.out) (Kd.R_typed (rr_ HO_8.out)) (by decide) hg); have n1_ := aM (Kd.R_after (ok := (fun _ => True)) qz64 hg hat); have n2_ := aM (blk_grown (bk_ BK552.out) hg (Kd.R_ne HO_8.out BK552.out (by decide))); have n3_ := aM (hb); have n4_ := aM (ho); clear HO_7 HO_10 BK552 HB HO_8; have HO_7 := n0_; have HO_10 := n1_; have BK552 := n2_; have HB := n3_; have HO576 := n4_; clear n0_ n1_ n2_ n3_ n4_; clear ho hb hg hat))
     (try simp only [← hl7_2])
     go_roundg k2
     case measure => have := HK1.out; have := HK2.out; omega
     case rel => exact ⟨(y572), (y574), (wrap64 (x11_2 + 1)), qz5, H', ⟨by have := HK1.out; have := HK2.out; omega⟩, ⟨by (try simp only [hl7_1]); (try simp only [hl7_2]); exact rm_ HO_7.out⟩, ⟨by (try simp only [hl7_1]); (try simp only [hl7_2]); exact rm_ HO576.out⟩, ⟨by (try simp only [hl7_1]); (try simp only [hl7_2]); (with_reducible repeat (first | apply Kd.R_alloc | apply Kd.R_drewN | apply Kd.R_drew)); exact Kd.R_mono HO_10.out (fun _ hk => hk.2)⟩, ⟨by (try simp only [hl7_1]); (try simp only [hl7_2]); exact bk_ BK552.out⟩, ⟨by repeat (first | (with_reducible first | exact HB.out | apply below_alloc | apply pw_below_drewN | apply below_drew1 | refine below_set ?_ GE552.out) | exact HB.out)⟩⟩
     }
     {
     rw [if_neg c42] at H
     exact absurd H (by simp)
     }
     }
     }
     {
     rw [if_neg c36] at H
     exact absurd H (by simp)
     }
     }
     {
     rw [if_neg c35] at H
     exact absurd H (by simp)
     }
     }
     }
     {
     rw [if_neg c31] at H
     have c31b0 := beq_eq_false_iff_ne.mpr c31
     have c31b1 := bne_iff_ne.mpr c31
     by_cases c48 : 0 ≤ (rd t562 x11_2)
     {
     rw [if_pos c48] at H
     have c48b0 := decide_eq_true c48
     clear c48
     by_cases c49 : (rd t562 x11_2) < (x7_2.length : Int)
     {
     rw [if_pos c49] at H
     have c49b0 := decide_eq_true c49
     (try (have c49b0q7_1 := c49b0; simp only [hl7_1] at c49b0q7_1))
     (try (have c49b0q7_2 := c49b0; simp only [hl7_2] at c49b0q7_2))
     clear c49
     obtain ⟨bq50, hbq50⟩ : ∃ b_ : Bool, b_ = (rdOf false x7_2 (rd t562 x11_2)) := ⟨_, rfl⟩
     replace H : (if (bq50 = true) then (spec_l3Apart.l1 k2 a1 a2 x7_2 x8_2 x9_1 t562 (wrap64 (x11_2 + 1)) a0_0 a0_1 l0_2) else (if x8_2.length < 17592186044416 then (spec_l3Apart.l1 k2 a1 a2 (x7_2.set ((rd t562 x11_2) : Int).toNat true) (x8_2 ++ [rd t562 x11_2]) x9_1 t562 (wrap64 (x11_2 + 1)) a0_0 a0_1 l0_2) else (none))) = some r := by rw [← hbq50] at H; exact H
     have Nbq50 := aM hbq50
     clear hbq50
     by_cases c51 : (bq50 = true)
     {
     subst c51
     rw [if_pos rfl] at H
     have H' := aM H
     clear H
     obtain ⟨Ao52, co52, eo52⟩ := Kd.R_slice HO_10.out
     subst eo52
     obtain ⟨Ao53, co53, eo53⟩ := Kd.R_slice HO_8.out
     subst eo53
     have p565 : 0 ≤ (x9_1 : Int) := of_decide_eq_true qz2
     have q565 : x9_1 < (x8_2.length : Int) := of_decide_eq_true qz2
     obtain ⟨ad565, e565, hx565_0⟩ := Kd.at_int (Kd.R_reads' HO_8.out).2.2 x9_1 p565 q565
     cases e565
     replace p565 := eq_true p565
     replace q565 := eq_true q565
     have p566 : 0 ≤ (x11_2 : Int) := of_decide_eq_true qz2
     have q566 : x11_2 < (t562.length : Int) := of_decide_eq_true qz2
     obtain ⟨ad566, e566, hx566_0⟩ := Kd.at_int (Kd.R_reads' HO_10.out).2.2 x11_2 p566 q566
     cases e566
     replace p566 := eq_true p566
     replace q566 := eq_true q566
     have p567 : 0 ≤ (x9_1 : Int) := of_decide_eq_true qz2
     have q567 : x9_1 < (x8_2.length : Int) := of_decide_eq_true qz2
     obtain ⟨ad567, e567, hx567_0⟩ := Kd.at_int (Kd.R_reads' HO_8.out).2.2 x9_1 p567 q567
     obtain rfl : ad565 = ad567 := (by injection e567)
     replace p567 := eq_true p567
     replace q567 := eq_true q567
     have p577 : 0 ≤ (x11_2 : Int) := of_decide_eq_true qz2
     have q577 : x11_2 < (t562.length : Int) := of_decide_eq_true qz2
     obtain ⟨ad577, e577, hx577_0⟩ := Kd.at_int (Kd.R_reads' HO_10.out).2.2 x11_2 p577 q577
     obtain rfl : ad566 = ad577 := (by injection e577)
     replace p577 := eq_true p577
     replace q577 := eq_true q577
     have p578 : 0 ≤ ((rd t562 x11_2) : Int) := of_decide_eq_true qz2
     have q578 : (rd t562 x11_2) < (x7_2.length : Int) := of_decide_eq_true qz2
     obtain ⟨ad578, e578, hx578_0⟩ := Kd.at_bool (Kd.R_reads' HO_7.out).2.2 (rd t562 x11_2) p578 q578
     (try rw [← Nbq50.out] at hx578_0)
     obtain rfl : (⟨go8, 0, none⟩ : Addr) = ad578 := (by injection e578)
     (first | simp only [add_plain] at hx578_0 | simp only [add_at] at hx578_0 | simp only [Addr.add, Nat.zero_add] at hx578_0 | skip)
     replace p578 := eq_true p578
     replace q578 := eq_true q578
     go_wp2
     (try simp only [← hl7_2])
     go_roundg k2
     case measure => have := HK1.out; have := HK2.out; omega
     case rel => exact ⟨(x7_2), (x8_2), (wrap64 (x11_2 + 1)), qz5, H', ⟨by have := HK1.out; have := HK2.out; omega⟩, ⟨by (try simp only [hl7_1]); (try simp only [hl7_2]); exact rm_ HO_7.out⟩, ⟨by (try simp only [hl7_1]); (try simp only [hl7_2]); exact rm_ HO_8.out⟩, ⟨by (try simp only [hl7_1]); (try simp only [hl7_2]); exact rm_ HO_10.out⟩, ⟨by (try simp only [hl7_1]); (try simp only [hl7_2]); exact bk_ BK552.out⟩, ⟨by repeat (first | (with_reducible first | exact HB.out | apply below_alloc | apply pw_below_drewN | apply below_drew1 | refine below_set ?_ GE552.out) | exact HB.out)⟩⟩
     }
     {
     replace c51 := Bool.eq_false_iff.mpr c51
     subst c51
     rw [if_neg (show ¬ (false = true) by decide)] at H
     obtain ⟨y580, hy580⟩ : ∃ y_ : List Bool, y_ = (x7_2.set ((rd t562 x11_2) : Int).toNat true) := ⟨_, rfl⟩
     replace H : (if x8_2.length < 17592186044416 then (spec_l3Apart.l1 k2 a1 a2 y580 (x8_2 ++ [rd t562 x11_2]) x9_1 t562 (wrap64 (x11_2 + 1)) a0_0 a0_1 l0_2) else (none)) = some r := by first | (rw [hy580]; with_reducible exact H) | (have H2_ := (Option.bind_some _ _).symm.trans H; rw [hy580]; with_reducible exact H2_) | (have H2_ := (Option.bind_some _ _).symm.trans H; with_reducible exact H2_) | with_reducible exact H | (rw [hy580]; exact H) | exact H
     have Ny580 := aM hy580
     clear hy580
     by_cases c55 : x8_2.length < 17592186044416
     {
     rw [if_pos c55] at H
     have LMc55 := aM c55
     clear c55
     obtain ⟨y582, hy582⟩ : ∃ y_ : List Int, y_ = (x8_2 ++ [rd t562 x11_2]) := ⟨_, rfl⟩
     replace H : (spec_l3Apart.l1 k2 a1 a2 y580 y582 x9_1 t562 (wrap64 (x11_2 + 1)) a0_0 a0_1 l0_2) = some r := by first | (rw [hy582]; with_reducible exact H) | (have H2_ := (Option.bind_some _ _).symm.trans H; rw [hy582]; with_reducible exact H2_) | (have H2_ := (Option.bind_some _ _).symm.trans H; with_reducible exact H2_) | with_reducible exact H | (rw [hy582]; exact H) | exact H
     have Ny582 := aM hy582
     clear hy582
     have H' := aM H
     clear H
     obtain ⟨Ao56, co56, eo56⟩ := Kd.R_slice HO_10.out
     subst eo56
     obtain ⟨Ao57, co57, eo57⟩ := Kd.R_slice HO_8.out
     subst eo57
     have p565 : 0 ≤ (x9_1 : Int) := of_decide_eq_true qz2
     have q565 : x9_1 < (x8_2.length : Int) := of_decide_eq_true qz2
     obtain ⟨ad565, e565, hx565_0⟩ := Kd.at_int (Kd.R_reads' HO_8.out).2.2 x9_1 p565 q565
     cases e565
     replace p565 := eq_true p565
     replace q565 := eq_true q565
     have p566 : 0 ≤ (x11_2 : Int) := of_decide_eq_true qz2
     have q566 : x11_2 < (t562.length : Int) := of_decide_eq_true qz2
     obtain ⟨ad566, e566, hx566_0⟩ := Kd.at_int (Kd.R_reads' HO_10.out).2.2 x11_2 p566 q566
     cases e566
     replace p566 := eq_true p566
     replace q566 := eq_true q566
     have p567 : 0 ≤ (x9_1 : Int) := of_decide_eq_true qz2
     have q567 : x9_1 < (x8_2.length : Int) := of_decide_eq_true qz2
     obtain ⟨ad567, e567, hx567_0⟩ := Kd.at_int (Kd.R_reads' HO_8.out).2.2 x9_1 p567 q567
     obtain rfl : ad565 = ad567 := (by injection e567)
     replace p567 := eq_true p567
     replace q567 := eq_true q567
     have p577 : 0 ≤ (x11_2 : Int) := of_decide_eq_true qz2
     have q577 : x11_2 < (t562.length : Int) := of_decide_eq_true qz2
     obtain ⟨ad577, e577, hx577_0⟩ := Kd.at_int (Kd.R_reads' HO_10.out).2.2 x11_2 p577 q577
     obtain rfl : ad566 = ad577 := (by injection e577)
     replace p577 := eq_true p577
     replace q577 := eq_true q577
     have p578 : 0 ≤ ((rd t562 x11_2) : Int) := of_decide_eq_true qz2
     have q578 : (rd t562 x11_2) < (x7_2.length : Int) := of_decide_eq_true qz2
     obtain ⟨ad578, e578, hx578_0⟩ := Kd.at_bool (Kd.R_reads' HO_7.out).2.2 (rd t562 x11_2) p578 q578
     (try rw [← Nbq50.out] at hx578_0)
     obtain rfl : (⟨go8, 0, none⟩ : Addr) = ad578 := (by injection e578)
     (first | simp only [add_plain] at hx578_0 | simp only [add_at] at hx578_0 | simp only [Addr.add, Nat.zero_add] at hx578_0 | skip)
     replace p578 := eq_true p578
     replace q578 := eq_true q578
     have p579 : 0 ≤ (x11_2 : Int) := of_decide_eq_true qz2
     have q579 : x11_2 < (t562.length : Int) := of_decide_eq_true qz2
     obtain ⟨ad579, e579, hx579_0⟩ := Kd.at_int (Kd.R_reads' HO_10.out).2.2 x11_2 p579 q579
     obtain rfl : ad566 = ad579 := (by injection e579)
     replace p579 := eq_true p579
     replace q579 := eq_true q579
     have p54 : 0 ≤ ((rd t562 x11_2) : Int) := of_decide_eq_true qz2
     have q54 : ((rd t562 x11_2) : Int) < ((x7_2.length : Int) : Int) := of_decide_eq_true qz2
     obtain ⟨hx54_0, hf54_0⟩ := Kd.R_celln false HO_7.out ((rd t562 x11_2) : Int) p54 q54
     replace p54 := eq_true p54
     replace q54 := eq_true q54
     obtain ⟨hy58_, hz58_⟩ := Kd.R_celln false HO_7.out ((rd t562 x11_2) : Int) (of_decide_eq_true qz2) (of_decide_eq_true qz2)
     have HP58 := Kd.R_putg HO_7.out ((rd t562 x11_2) : Int) true
     go_wp2_with (first | ((with_reducible refine gate_store (t := 4) (p := 87) rfl ?_); refine store_event (t := 4) (p := 87) (v := ?vo_w59) (w1 := (wr.setCell ⟨go8, ((rd t562 x11_2) : Int).toNat, none⟩ (.bool true))) ?hg ?ho ?hn ?hr ?_; (case ho => rfl); (case hg => rfl); (case hn => rfl); (case hr => exact qz28); intro w59 hw; have hg : wr.grownBy w59 (some go8) := (by rw [hw]; exact HP58.2); have hp_ : Kd.R Kd.bool 4 w59 w.heap.size (fun _ => True) (.slice (some ⟨go8, 0, none⟩) x7_2.length co8) y580 := (by rw [hw, Ny580.out]; exact HP58.1); clear HP58; have n0_ := aM (hp_); have n1_ := aM (Kd.R_over' (v := (.slice (some ⟨go8, 0, none⟩) x7_2.length co8)) (rr_ HO_8.out) (Kd.R_typed HO_7.out) (by decide) hg); have n2_ := aM (Kd.R_over' (v := (.slice (some ⟨go8, 0, none⟩) x7_2.length co8)) (rr_ HO_10.out) (Kd.R_typed HO_7.out) (by decide) hg); have n3_ := aM (blk_grown (bk_ BK552.out) hg (Kd.R_ne HO_7.out BK552.out (by decide))); have n4_ := aM ((by rw [hw]; exact below_set (HB.out) GB8.out : Below w.heap.size w w59)); clear HO_7 HO_8 HO_10 BK552 HB; have HO_7 := n0_; have HO_8 := n1_; have HO_10 := n2_; have BK552 := n3_; have HB := n4_; clear n0_ n1_ n2_ n3_ n4_; clear hg hw hp_; have p581 : 0 ≤ (x11_2 : Int) := of_decide_eq_true qz2; have q581 : x11_2 < (t562.length : Int) := of_decide_eq_true qz2; obtain ⟨ad581, e581, hx581_0⟩ := Kd.at_int (Kd.R_reads' HO_10.out).2.2 x11_2 p581 q581; obtain rfl : ad566 = ad581 := (by injection e581); replace p581 := eq_true p581; replace q581 := eq_true q581) | ((with_reducible refine gate_builtin (b := .append) (xs := #[.tmp 88, .tmp 93]) rfl ?_); at_builtin; refine Kd.R_append (Kd.int .i64) (w0 := w) w.heap.size rfl (.tmp 88) (.tmp 93) 24 3 (.int .i64 0) 8 rfl Try.underlying24 info3 rfl (by decide) (by omega) (.slice (some ad565) x8_2.length co57) x8_2 (rd t562 x11_2) [.int .i64 (rd t562 x11_2)] (fun k_ => some k_ ≠ (.slice (some ad566) t562.length co56 : Value).ownBlock) (fun _ => False) rfl rfl ?aP (fun _ hk => hk.elim) ?aF ?aO ?aB ?aS ?aL ?_; (case aP => exact rfl); (case aB => exact qz18); (case aF => exact (fun k_ hk => Kd.fresh' (Kd.R_lt (rr_ HO_10.out)) k_ hk)); (case aO => exact (rr_ HO_8.out)); (case aS => exact (below_size qz18)); (case aL => have := LMc55.out; omega); intro v583 w60 ho hb hg hat; rw [← Ny582.out] at ho; have n0_ := aM (Kd.R_over' (rr_ HO_7.out) (Kd.R_typed (rr_ HO_8.out)) (by decide) hg); have n1_ := aM (Kd.R_after (ok := (fun _ => True)) qz64 hg hat); have n2_ := aM (blk_grown (bk_ BK552.out) hg (Kd.R_ne HO_8.out BK552.out (by decide))); have n3_ := aM (hb); have n4_ := aM (ho); clear HO_7 HO_10 BK552 HB HO_8; have HO_7 := n0_; have HO_10 := n1_; have BK552 := n2_; have HB := n3_; have HO584 := n4_; clear n0_ n1_ n2_ n3_ n4_; clear ho hb hg hat))
     (try simp only [← hl7_2])
     go_roundg k2
     case measure => have := HK1.out; have := HK2.out; omega
     case rel => exact ⟨(y580), (y582), (wrap64 (x11_2 + 1)), qz5, H', ⟨by have := HK1.out; have := HK2.out; omega⟩, ⟨by (try simp only [hl7_1]); (try simp only [hl7_2]); exact rm_ HO_7.out⟩, ⟨by (try simp only [hl7_1]); (try simp only [hl7_2]); exact rm_ HO584.out⟩, ⟨by (try simp only [hl7_1]); (try simp only [hl7_2]); (with_reducible repeat (first | apply Kd.R_alloc | apply Kd.R_drewN | apply Kd.R_drew)); exact Kd.R_mono HO_10.out (fun _ hk => hk.2)⟩, ⟨by (try simp only [hl7_1]); (try simp only [hl7_2]); exact bk_ BK552.out⟩, ⟨by repeat (first | (with_reducible first | exact HB.out | apply below_alloc | apply pw_below_drewN | apply below_drew1 | refine below_set ?_ GE552.out) | exact HB.out)⟩⟩
     }
     {
     rw [if_neg c55] at H
     exact absurd H (by simp)
     }
     }
     }
     {
     rw [if_neg c49] at H
     exact absurd H (by simp)
     }
     }
     {
     rw [if_neg c48] at H
     exact absurd H (by simp)
     }
     }
     }
     }
     {
     rw [if_neg c27] at H
     exact absurd H (by simp)
     }
     }
     {
     rw [if_neg c26] at H
     have c26b0 := beq_eq_false_iff_ne.mpr c26
     have c26b1 := bne_iff_ne.mpr c26
     by_cases c61 : (rd x8_2 x9_1) = a2
     {
     rw [if_pos c61] at H
     have c61b0 := beq_iff_eq.mpr c61
     have c61b1 := bne_eq_false_iff_eq.mpr c61
     clear c61
     by_cases c62 : 0 ≤ x11_2
     {
     rw [if_pos c62] at H
     have c62b0 := decide_eq_true c62
     clear c62
     by_cases c63 : ((rd t562 x11_2) = a1)
     {
     rw [if_pos c63] at H
     have c63b0 := beq_iff_eq.mpr c63
     have c63b1 := bne_eq_false_iff_eq.mpr c63
     clear c63
     have H' := aM H
     clear H
     obtain ⟨Ao64, co64, eo64⟩ := Kd.R_slice HO_10.out
     subst eo64
     obtain ⟨Ao65, co65, eo65⟩ := Kd.R_slice HO_8.out
     subst eo65
     have p565 : 0 ≤ (x9_1 : Int) := of_decide_eq_true qz2
     have q565 : x9_1 < (x8_2.length : Int) := of_decide_eq_true qz2
     obtain ⟨ad565, e565, hx565_0⟩ := Kd.at_int (Kd.R_reads' HO_8.out).2.2 x9_1 p565 q565
     cases e565
     replace p565 := eq_true p565
     replace q565 := eq_true q565
     have p585 : 0 ≤ (x9_1 : Int) := of_decide_eq_true qz2
     have q585 : x9_1 < (x8_2.length : Int) := of_decide_eq_true qz2
     obtain ⟨ad585, e585, hx585_0⟩ := Kd.at_int (Kd.R_reads' HO_8.out).2.2 x9_1 p585 q585
     obtain rfl : ad565 = ad585 := (by injection e585)
     replace p585 := eq_true p585
     replace q585 := eq_true q585
     have p586 : 0 ≤ (x11_2 : Int) := of_decide_eq_true qz2
     have q586 : x11_2 < (t562.length : Int) := of_decide_eq_true qz2
     obtain ⟨ad586, e586, hx586_0⟩ := Kd.at_int (Kd.R_reads' HO_10.out).2.2 x11_2 p586 q586
     cases e586
     replace p586 := eq_true p586
     replace q586 := eq_true q586
     go_wp2
     (try simp only [← hl7_2])
     go_roundg k2
     case measure => have := HK1.out; have := HK2.out; omega
     case rel => exact ⟨(x7_2), (x8_2), (wrap64 (x11_2 + 1)), qz5, H', ⟨by have := HK1.out; have := HK2.out; omega⟩, ⟨by (try simp only [hl7_1]); (try simp only [hl7_2]); exact rm_ HO_7.out⟩, ⟨by (try simp only [hl7_1]); (try simp only [hl7_2]); exact rm_ HO_8.out⟩, ⟨by (try simp only [hl7_1]); (try simp only [hl7_2]); exact rm_ HO_10.out⟩, ⟨by (try simp only [hl7_1]); (try simp only [hl7_2]); exact bk_ BK552.out⟩, ⟨by repeat (first | (with_reducible first | exact HB.out | apply below_alloc | apply pw_below_drewN | apply below_drew1 | refine below_set ?_ GE552.out) | exact HB.out)⟩⟩
     }
     {
     rw [if_neg c63] at H
     have c63b0 := beq_eq_false_iff_ne.mpr c63
     have c63b1 := bne_iff_ne.mpr c63
     by_cases c66 : 0 ≤ (rd t562 x11_2)
     {
     rw [if_pos c66] at H
     have c66b0 := decide_eq_true c66
     clear c66
     by_cases c67 : (rd t562 x11_2) < (x7_2.length : Int)
     {
     rw [if_pos c67] at H
     have c67b0 := decide_eq_true c67
     (try (have c67b0q7_1 := c67b0; simp only [hl7_1] at c67b0q7_1))
     (try (have c67b0q7_2 := c67b0; simp only [hl7_2] at c67b0q7_2))
     clear c67
     obtain ⟨bq68, hbq68⟩ : ∃ b_ : Bool, b_ = (rdOf false x7_2 (rd t562 x11_2)) := ⟨_, rfl⟩
     replace H : (if (bq68 = true) then (spec_l3Apart.l1 k2 a1 a2 x7_2 x8_2 x9_1 t562 (wrap64 (x11_2 + 1)) a0_0 a0_1 l0_2) else (if x8_2.length < 17592186044416 then (spec_l3Apart.l1 k2 a1 a2 (x7_2.set ((rd t562 x11_2) : Int).toNat true) (x8_2 ++ [rd t562 x11_2]) x9_1 t562 (wrap64 (x11_2 + 1)) a0_0 a0_1 l0_2) else (none))) = some r := by rw [← hbq68] at H; exact H
     have Nbq68 := aM hbq68
     clear hbq68
     by_cases c69 : (bq68 = true)
     {
     subst c69
     rw [if_pos rfl] at H
     have H' := aM H
     clear H
     obtain ⟨Ao70, co70, eo70⟩ := Kd.R_slice HO_10.out
     subst eo70
     obtain ⟨Ao71, co71, eo71⟩ := Kd.R_slice HO_8.out
     subst eo71
     have p565 : 0 ≤ (x9_1 : Int) := of_decide_eq_true qz2
     have q565 : x9_1 < (x8_2.length : Int) := of_decide_eq_true qz2
     obtain ⟨ad565, e565, hx565_0⟩ := Kd.at_int (Kd.R_reads' HO_8.out).2.2 x9_1 p565 q565
     cases e565
     replace p565 := eq_true p565
     replace q565 := eq_true q565
     have p585 : 0 ≤ (x9_1 : Int) := of_decide_eq_true qz2
     have q585 : x9_1 < (x8_2.length : Int) := of_decide_eq_true qz2
     obtain ⟨ad585, e585, hx585_0⟩ := Kd.at_int (Kd.R_reads' HO_8.out).2.2 x9_1 p585 q585
     obtain rfl : ad565 = ad585 := (by injection e585)
     replace p585 := eq_true p585
     replace q585 := eq_true q585
     have p586 : 0 ≤ (x11_2 : Int) := of_decide_eq_true qz2
     have q586 : x11_2 < (t562.length : Int) := of_decide_eq_true qz2
     obtain ⟨ad586, e586, hx586_0⟩ := Kd.at_int (Kd.R_reads' HO_10.out).2.2 x11_2 p586 q586
     cases e586
     replace p586 := eq_true p586
     replace q586 := eq_true q586
     have p587 : 0 ≤ (x11_2 : Int) := of_decide_eq_true qz2
     have q587 : x11_2 < (t562.length : Int) := of_decide_eq_true qz2
     obtain ⟨ad587, e587, hx587_0⟩ := Kd.at_int (Kd.R_reads' HO_10.out).2.2 x11_2 p587 q587
     obtain rfl : ad586 = ad587 := (by injection e587)
     replace p587 := eq_true p587
     replace q587 := eq_true q587
     have p588 : 0 ≤ ((rd t562 x11_2) : Int) := of_decide_eq_true qz2
     have q588 : (rd t562 x11_2) < (x7_2.length : Int) := of_decide_eq_true qz2
     obtain ⟨ad588, e588, hx588_0⟩ := Kd.at_bool (Kd.R_reads' HO_7.out).2.2 (rd t562 x11_2) p588 q588
     (try rw [← Nbq68.out] at hx588_0)
     obtain rfl : (⟨go8, 0, none⟩ : Addr) = ad588 := (by injection e588)
     (first | simp only [add_plain] at hx588_0 | simp only [add_at] at hx588_0 | simp only [Addr.add, Nat.zero_add] at hx588_0 | skip)
     replace p588 := eq_true p588
     replace q588 := eq_true q588
     go_wp2
     (try simp only [← hl7_2])
     go_roundg k2
     case measure => have := HK1.out; have := HK2.out; omega
     case rel => exact ⟨(x7_2), (x8_2), (wrap64 (x11_2 + 1)), qz5, H', ⟨by have := HK1.out; have := HK2.out; omega⟩, ⟨by (try simp only [hl7_1]); (try simp only [hl7_2]); exact rm_ HO_7.out⟩, ⟨by (try simp only [hl7_1]); (try simp only [hl7_2]); exact rm_ HO_8.out⟩, ⟨by (try simp only [hl7_1]); (try simp only [hl7_2]); exact rm_ HO_10.out⟩, ⟨by (try simp only [hl7_1]); (try simp only [hl7_2]); exact bk_ BK552.out⟩, ⟨by repeat (first | (with_reducible first | exact HB.out | apply below_alloc | apply pw_below_drewN | apply below_drew1 | refine below_set ?_ GE552.out) | exact HB.out)⟩⟩
     }
     {
     replace c69 := Bool.eq_false_iff.mpr c69
     subst c69
     rw [if_neg (show ¬ (false = true) by decide)] at H
     obtain ⟨y590, hy590⟩ : ∃ y_ : List Bool, y_ = (x7_2.set ((rd t562 x11_2) : Int).toNat true) := ⟨_, rfl⟩
     replace H : (if x8_2.length < 17592186044416 then (spec_l3Apart.l1 k2 a1 a2 y590 (x8_2 ++ [rd t562 x11_2]) x9_1 t562 (wrap64 (x11_2 + 1)) a0_0 a0_1 l0_2) else (none)) = some r := by first | (rw [hy590]; with_reducible exact H) | (have H2_ := (Option.bind_some _ _).symm.trans H; rw [hy590]; with_reducible exact H2_) | (have H2_ := (Option.bind_some _ _).symm.trans H; with_reducible exact H2_) | with_reducible exact H | (rw [hy590]; exact H) | exact H
     have Ny590 := aM hy590
     clear hy590
     by_cases c73 : x8_2.length < 17592186044416
     {
     rw [if_pos c73] at H
     have LMc73 := aM c73
     clear c73
     obtain ⟨y592, hy592⟩ : ∃ y_ : List Int, y_ = (x8_2 ++ [rd t562 x11_2]) := ⟨_, rfl⟩
     replace H : (spec_l3Apart.l1 k2 a1 a2 y590 y592 x9_1 t562 (wrap64 (x11_2 + 1)) a0_0 a0_1 l0_2) = some r := by first | (rw [hy592]; with_reducible exact H) | (have H2_ := (Option.bind_some _ _).symm.trans H; rw [hy592]; with_reducible exact H2_) | (have H2_ := (Option.bind_some _ _).symm.trans H; with_reducible exact H2_) | with_reducible exact H | (rw [hy592]; exact H) | exact H
     have Ny592 := aM hy592
     clear hy592
     have H' := aM H
     clear H
     obtain ⟨Ao74, co74, eo74⟩ := Kd.R_slice HO_10.out
     subst eo74
     obtain ⟨Ao75, co75, eo75⟩ := Kd.R_slice HO_8.out
     subst eo75
     have p565 : 0 ≤ (x9_1 : Int) := of_decide_eq_true qz2
     have q565 : x9_1 < (x8_2.length : Int) := of_decide_eq_true qz2
     obtain ⟨ad565, e565, hx565_0⟩ := Kd.at_int (Kd.R_reads' HO_8.out).2.2 x9_1 p565 q565
     cases e565
     replace p565 := eq_true p565
     replace q565 := eq_true q565
     have p585 : 0 ≤ (x9_1 : Int) := of_decide_eq_true qz2
     have q585 : x9_1 < (x8_2.length : Int) := of_decide_eq_true qz2
     obtain ⟨ad585, e585, hx585_0⟩ := Kd.at_int (Kd.R_reads' HO_8.out).2.2 x9_1 p585 q585
     obtain rfl : ad565 = ad585 := (by injection e585)
     replace p585 := eq_true p585
     replace q585 := eq_true q585
     have p586 : 0 ≤ (x11_2 : Int) := of_decide_eq_true qz2
     have q586 : x11_2 < (t562.length : Int) := of_decide_eq_true qz2
     obtain ⟨ad586, e586, hx586_0⟩ := Kd.at_int (Kd.R_reads' HO_10.out).2.2 x11_2 p586 q586
     cases e586
     replace p586 := eq_true p586
     replace q586 := eq_true q586
     have p587 : 0 ≤ (x11_2 : Int) := of_decide_eq_true qz2
     have q587 : x11_2 < (t562.length : Int) := of_decide_eq_true qz2
     obtain ⟨ad587, e587, hx587_0⟩ := Kd.at_int (Kd.R_reads' HO_10.out).2.2 x11_2 p587 q587
     obtain rfl : ad586 = ad587 := (by injection e587)
     replace p587 := eq_true p587
     replace q587 := eq_true q587
     have p588 : 0 ≤ ((rd t562 x11_2) : Int) := of_decide_eq_true qz2
     have q588 : (rd t562 x11_2) < (x7_2.length : Int) := of_decide_eq_true qz2
     obtain ⟨ad588, e588, hx588_0⟩ := Kd.at_bool (Kd.R_reads' HO_7.out).2.2 (rd t562 x11_2) p588 q588
     (try rw [← Nbq68.out] at hx588_0)
     obtain rfl : (⟨go8, 0, none⟩ : Addr) = ad588 := (by injection e588)
     (first | simp only [add_plain] at hx588_0 | simp only [add_at] at hx588_0 | simp only [Addr.add, Nat.zero_add] at hx588_0 | skip)
     replace p588 := eq_true p588
     replace q588 := eq_true q588
     have p589 : 0 ≤ (x11_2 : Int) := of_decide_eq_true qz2
     have q589 : x11_2 < (t562.length : Int) := of_decide_eq_true qz2
     obtain ⟨ad589, e589, hx589_0⟩ := Kd.at_int (Kd.R_reads' HO_10.out).2.2 x11_2 p589 q589
     obtain rfl : ad586 = ad589 := (by injection e589)
     replace p589 := eq_true p589
     replace q589 := eq_true q589
     have p72 : 0 ≤ ((rd t562 x11_2) : Int) := of_decide_eq_true qz2
     have q72 : ((rd t562 x11_2) : Int) < ((x7_2.length : Int) : Int) := of_decide_eq_true qz2
     obtain ⟨hx72_0, hf72_0⟩ := Kd.R_celln false HO_7.out ((rd t562 x11_2) : Int) p72 q72
     replace p72 := eq_true p72
     replace q72 := eq_true q72
     obtain ⟨hy76_, hz76_⟩ := Kd.R_celln false HO_7.out ((rd t562 x11_2) : Int) (of_decide_eq_true qz2) (of_decide_eq_true qz2)
     have HP76 := Kd.R_putg HO_7.out ((rd t562 x11_2) : Int) true
     go_wp2_with (first | ((with_reducible refine gate_store (t := 4) (p := 87) rfl ?_); refine store_event (t := 4) (p := 87) (v := ?vo_w77) (w1 := (wr.setCell ⟨go8, ((rd t562 x11_2) : Int).toNat, none⟩ (.bool true))) ?hg ?ho ?hn ?hr ?_; (case ho => rfl); (case hg => rfl); (case hn => rfl); (case hr => exact qz28); intro w77 hw; have hg : wr.grownBy w77 (some go8) := (by rw [hw]; exact HP76.2); have hp_ : Kd.R Kd.bool 4 w77 w.heap.size (fun _ => True) (.slice (some ⟨go8, 0, none⟩) x7_2.length co8) y590 := (by rw [hw, Ny590.out]; exact HP76.1); clear HP76; have n0_ := aM (hp_); have n1_ := aM (Kd.R_over' (v := (.slice (some ⟨go8, 0, none⟩) x7_2.length co8)) (rr_ HO_8.out) (Kd.R_typed HO_7.out) (by decide) hg); have n2_ := aM (Kd.R_over' (v := (.slice (some ⟨go8, 0, none⟩) x7_2.length co8)) (rr_ HO_10.out) (Kd.R_typed HO_7.out) (by decide) hg); have n3_ := aM (blk_grown (bk_ BK552.out) hg (Kd.R_ne HO_7.out BK552.out (by decide))); have n4_ := aM ((by rw [hw]; exact below_set (HB.out) GB8.out : Below w.heap.size w w77)); clear HO_7 HO_8 HO_10 BK552 HB; have HO_7 := n0_; have HO_8 := n1_; have HO_10 := n2_; have BK552 := n3_; have HB := n4_; clear n0_ n1_ n2_ n3_ n4_; clear hg hw hp_; have p591 : 0 ≤ (x11_2 : Int) := of_decide_eq_true qz2; have q591 : x11_2 < (t562.length : Int) := of_decide_eq_true qz2; obtain ⟨ad591, e591, hx591_0⟩ := Kd.at_int (Kd.R_reads' HO_10.out).2.2 x11_2 p591 q591; obtain rfl : ad586 = ad591 := (by injection e591); replace p591 := eq_true p591; replace q591 := eq_true q591) | ((with_reducible refine gate_builtin (b := .append) (xs := #[.tmp 88, .tmp 93]) rfl ?_); at_builtin; refine Kd.R_append (Kd.int .i64) (w0 := w) w.heap.size rfl (.tmp 88) (.tmp 93) 24 3 (.int .i64 0) 8 rfl Try.underlying24 info3 rfl (by decide) (by omega) (.slice (some ad565) x8_2.length co75) x8_2 (rd t562 x11_2) [.int .i64 (rd t562 x11_2)] (fun k_ => some k_ ≠ (.slice (some ad586) t562.length co74 : Value).ownBlock) (fun _ => False) rfl rfl ?aP (fun _ hk => hk.elim) ?aF ?aO ?aB ?aS ?aL ?_; (case aP => exact rfl); (case aB => exact qz18); (case aF => exact (fun k_ hk => Kd.fresh' (Kd.R_lt (rr_ HO_10.out)) k_ hk)); (case aO => exact (rr_ HO_8.out)); (case aS => exact (below_size qz18)); (case aL => have := LMc73.out; omega); intro v593 w78 ho hb hg hat; rw [← Ny592.out] at ho; have n0_ := aM (Kd.R_over' (rr_ HO_7.out) (Kd.R_typed (rr_ HO_8.out)) (by decide) hg); have n1_ := aM (Kd.R_after (ok := (fun _ => True)) qz64 hg hat); have n2_ := aM (blk_grown (bk_ BK552.out) hg (Kd.R_ne HO_8.out BK552.out (by decide))); have n3_ := aM (hb); have n4_ := aM (ho); clear HO_7 HO_10 BK552 HB HO_8; have HO_7 := n0_; have HO_10 := n1_; have BK552 := n2_; have HB := n3_; have HO594 := n4_; clear n0_ n1_ n2_ n3_ n4_; clear ho hb hg hat))
     (try simp only [← hl7_2])
     go_roundg k2
     case measure => have := HK1.out; have := HK2.out; omega
     case rel => exact ⟨(y590), (y592), (wrap64 (x11_2 + 1)), qz5, H', ⟨by have := HK1.out; have := HK2.out; omega⟩, ⟨by (try simp only [hl7_1]); (try simp only [hl7_2]); exact rm_ HO_7.out⟩, ⟨by (try simp only [hl7_1]); (try simp only [hl7_2]); exact rm_ HO594.out⟩, ⟨by (try simp only [hl7_1]); (try simp only [hl7_2]); (with_reducible repeat (first | apply Kd.R_alloc | apply Kd.R_drewN | apply Kd.R_drew)); exact Kd.R_mono HO_10.out (fun _ hk => hk.2)⟩, ⟨by (try simp only [hl7_1]); (try simp only [hl7_2]); exact bk_ BK552.out⟩, ⟨by repeat (first | (with_reducible first | exact HB.out | apply below_alloc | apply pw_below_drewN | apply below_drew1 | refine below_set ?_ GE552.out) | exact HB.out)⟩⟩
     }
     {
     rw [if_neg c73] at H
     exact absurd H (by simp)
     }
     }
     }
     {
     rw [if_neg c67] at H
     exact absurd H (by simp)
     }
     }
     {
     rw [if_neg c66] at H
     exact absurd H (by simp)
     }
     }
     }
     {
     rw [if_neg c62] at H
     exact absurd H (by simp)
     }
     }
     {
     rw [if_neg c61] at H
     have c61b0 := beq_eq_false_iff_ne.mpr c61
     have c61b1 := bne_iff_ne.mpr c61
     by_cases c79 : 0 ≤ x11_2
     {
     rw [if_pos c79] at H
     have c79b0 := decide_eq_true c79
     clear c79
     by_cases c80 : 0 ≤ (rd t562 x11_2)
     {
     rw [if_pos c80] at H
     have c80b0 := decide_eq_true c80
     clear c80
     by_cases c81 : (rd t562 x11_2) < (x7_2.length : Int)
     {
     rw [if_pos c81] at H
     have c81b0 := decide_eq_true c81
     (try (have c81b0q7_1 := c81b0; simp only [hl7_1] at c81b0q7_1))
     (try (have c81b0q7_2 := c81b0; simp only [hl7_2] at c81b0q7_2))
     clear c81
     obtain ⟨bq82, hbq82⟩ : ∃ b_ : Bool, b_ = (rdOf false x7_2 (rd t562 x11_2)) := ⟨_, rfl⟩
     replace H : (if (bq82 = true) then (spec_l3Apart.l1 k2 a1 a2 x7_2 x8_2 x9_1 t562 (wrap64 (x11_2 + 1)) a0_0 a0_1 l0_2) else (if x8_2.length < 17592186044416 then (spec_l3Apart.l1 k2 a1 a2 (x7_2.set ((rd t562 x11_2) : Int).toNat true) (x8_2 ++ [rd t562 x11_2]) x9_1 t562 (wrap64 (x11_2 + 1)) a0_0 a0_1 l0_2) else (none))) = some r := by rw [← hbq82] at H; exact H
     have Nbq82 := aM hbq82
     clear hbq82
     by_cases c83 : (bq82 = true)
     {
     subst c83
     rw [if_pos rfl] at H
     have H' := aM H
     clear H
     obtain ⟨Ao84, co84, eo84⟩ := Kd.R_slice HO_10.out
     subst eo84
     obtain ⟨Ao85, co85, eo85⟩ := Kd.R_slice HO_8.out
     subst eo85
     have p565 : 0 ≤ (x9_1 : Int) := of_decide_eq_true qz2
     have q565 : x9_1 < (x8_2.length : Int) := of_decide_eq_true qz2
     obtain ⟨ad565, e565, hx565_0⟩ := Kd.at_int (Kd.R_reads' HO_8.out).2.2 x9_1 p565 q565
     cases e565
     replace p565 := eq_true p565
     replace q565 := eq_true q565
     have p585 : 0 ≤ (x9_1 : Int) := of_decide_eq_true qz2
     have q585 : x9_1 < (x8_2.length : Int) := of_decide_eq_true qz2
     obtain ⟨ad585, e585, hx585_0⟩ := Kd.at_int (Kd.R_reads' HO_8.out).2.2 x9_1 p585 q585
     obtain rfl : ad565 = ad585 := (by injection e585)
     replace p585 := eq_true p585
     replace q585 := eq_true q585
     have p595 : 0 ≤ (x11_2 : Int) := of_decide_eq_true qz2
     have q595 : x11_2 < (t562.length : Int) := of_decide_eq_true qz2
     obtain ⟨ad595, e595, hx595_0⟩ := Kd.at_int (Kd.R_reads' HO_10.out).2.2 x11_2 p595 q595
     cases e595
     replace p595 := eq_true p595
     replace q595 := eq_true q595
     have p596 : 0 ≤ ((rd t562 x11_2) : Int) := of_decide_eq_true qz2
     have q596 : (rd t562 x11_2) < (x7_2.length : Int) := of_decide_eq_true qz2
     obtain ⟨ad596, e596, hx596_0⟩ := Kd.at_bool (Kd.R_reads' HO_7.out).2.2 (rd t562 x11_2) p596 q596
     (try rw [← Nbq82.out] at hx596_0)
     obtain rfl : (⟨go8, 0, none⟩ : Addr) = ad596 := (by injection e596)
     (first | simp only [add_plain] at hx596_0 | simp only [add_at] at hx596_0 | simp only [Addr.add, Nat.zero_add] at hx596_0 | skip)
     replace p596 := eq_true p596
     replace q596 := eq_true q596
     go_wp2
     (try simp only [← hl7_2])
     go_roundg k2
     case measure => have := HK1.out; have := HK2.out; omega
     case rel => exact ⟨(x7_2), (x8_2), (wrap64 (x11_2 + 1)), qz5, H', ⟨by have := HK1.out; have := HK2.out; omega⟩, ⟨by (try simp only [hl7_1]); (try simp only [hl7_2]); exact rm_ HO_7.out⟩, ⟨by (try simp only [hl7_1]); (try simp only [hl7_2]); exact rm_ HO_8.out⟩, ⟨by (try simp only [hl7_1]); (try simp only [hl7_2]); exact rm_ HO_10.out⟩, ⟨by (try simp only [hl7_1]); (try simp only [hl7_2]); exact bk_ BK552.out⟩, ⟨by repeat (first | (with_reducible first | exact HB.out | apply below_alloc | apply pw_below_drewN | apply below_drew1 | refine below_set ?_ GE552.out) | exact HB.out)⟩⟩
     }
     {
     replace c83 := Bool.eq_false_iff.mpr c83
     subst c83
     rw [if_neg (show ¬ (false = true) by decide)] at H
     obtain ⟨y598, hy598⟩ : ∃ y_ : List Bool, y_ = (x7_2.set ((rd t562 x11_2) : Int).toNat true) := ⟨_, rfl⟩
     replace H : (if x8_2.length < 17592186044416 then (spec_l3Apart.l1 k2 a1 a2 y598 (x8_2 ++ [rd t562 x11_2]) x9_1 t562 (wrap64 (x11_2 + 1)) a0_0 a0_1 l0_2) else (none)) = some r := by first | (rw [hy598]; with_reducible exact H) | (have H2_ := (Option.bind_some _ _).symm.trans H; rw [hy598]; with_reducible exact H2_) | (have H2_ := (Option.bind_some _ _).symm.trans H; with_reducible exact H2_) | with_reducible exact H | (rw [hy598]; exact H) | exact H
     have Ny598 := aM hy598
     clear hy598
     by_cases c87 : x8_2.length < 17592186044416
     {
     rw [if_pos c87] at H
     have LMc87 := aM c87
     clear c87
     obtain ⟨y600, hy600⟩ : ∃ y_ : List Int, y_ = (x8_2 ++ [rd t562 x11_2]) := ⟨_, rfl⟩
     replace H : (spec_l3Apart.l1 k2 a1 a2 y598 y600 x9_1 t562 (wrap64 (x11_2 + 1)) a0_0 a0_1 l0_2) = some r := by first | (rw [hy600]; with_reducible exact H) | (have H2_ := (Option.bind_some _ _).symm.trans H; rw [hy600]; with_reducible exact H2_) | (have H2_ := (Option.bind_some _ _).symm.trans H; with_reducible exact H2_) | with_reducible exact H | (rw [hy600]; exact H) | exact H
     have Ny600 := aM hy600
     clear hy600
     have H' := aM H
     clear H
     obtain ⟨Ao88, co88, eo88⟩ := Kd.R_slice HO_10.out
     subst eo88
     obtain ⟨Ao89, co89, eo89⟩ := Kd.R_slice HO_8.out
     subst eo89
     have p565 : 0 ≤ (x9_1 : Int) := of_decide_eq_true qz2
     have q565 : x9_1 < (x8_2.length : Int) := of_decide_eq_true qz2
     obtain ⟨ad565, e565, hx565_0⟩ := Kd.at_int (Kd.R_reads' HO_8.out).2.2 x9_1 p565 q565
     cases e565
     replace p565 := eq_true p565
     replace q565 := eq_true q565
     have p585 : 0 ≤ (x9_1 : Int) := of_decide_eq_true qz2
     have q585 : x9_1 < (x8_2.length : Int) := of_decide_eq_true qz2
     obtain ⟨ad585, e585, hx585_0⟩ := Kd.at_int (Kd.R_reads' HO_8.out).2.2 x9_1 p585 q585
     obtain rfl : ad565 = ad585 := (by injection e585)
     replace p585 := eq_true p585
     replace q585 := eq_true q585
     have p595 : 0 ≤ (x11_2 : Int) := of_decide_eq_true qz2
     have q595 : x11_2 < (t562.length : Int) := of_decide_eq_true qz2
     obtain ⟨ad595, e595, hx595_0⟩ := Kd.at_int (Kd.R_reads' HO_10.out).2.2 x11_2 p595 q595
     cases e595
     replace p595 := eq_true p595
     replace q595 := eq_true q595
     have p596 : 0 ≤ ((rd t562 x11_2) : Int) := of_decide_eq_true qz2
     have q596 : (rd t562 x11_2) < (x7_2.length : Int) := of_decide_eq_true qz2
     obtain ⟨ad596, e596, hx596_0⟩ := Kd.at_bool (Kd.R_reads' HO_7.out).2.2 (rd t562 x11_2) p596 q596
     (try rw [← Nbq82.out] at hx596_0)
     obtain rfl : (⟨go8, 0, none⟩ : Addr) = ad596 := (by injection e596)
     (first | simp only [add_plain] at hx596_0 | simp only [add_at] at hx596_0 | simp only [Addr.add, Nat.zero_add] at hx596_0 | skip)
     replace p596 := eq_true p596
     replace q596 := eq_true q596
     have p597 : 0 ≤ (x11_2 : Int) := of_decide_eq_true qz2
     have q597 : x11_2 < (t562.length : Int) := of_decide_eq_true qz2
     obtain ⟨ad597, e597, hx597_0⟩ := Kd.at_int (Kd.R_reads' HO_10.out).2.2 x11_2 p597 q597
     obtain rfl : ad595 = ad597 := (by injection e597)
     replace p597 := eq_true p597
     replace q597 := eq_true q597
     have p86 : 0 ≤ ((rd t562 x11_2) : Int) := of_decide_eq_true qz2
     have q86 : ((rd t562 x11_2) : Int) < ((x7_2.length : Int) : Int) := of_decide_eq_true qz2
     obtain ⟨hx86_0, hf86_0⟩ := Kd.R_celln false HO_7.out ((rd t562 x11_2) : Int) p86 q86
     replace p86 := eq_true p86
     replace q86 := eq_true q86
     obtain ⟨hy90_, hz90_⟩ := Kd.R_celln false HO_7.out ((rd t562 x11_2) : Int) (of_decide_eq_true qz2) (of_decide_eq_true qz2)
     have HP90 := Kd.R_putg HO_7.out ((rd t562 x11_2) : Int) true
     go_wp2_with (first | ((with_reducible refine gate_store (t := 4) (p := 87) rfl ?_); refine store_event (t := 4) (p := 87) (v := ?vo_w91) (w1 := (wr.setCell ⟨go8, ((rd t562 x11_2) : Int).toNat, none⟩ (.bool true))) ?hg ?ho ?hn ?hr ?_; (case ho => rfl); (case hg => rfl); (case hn => rfl); (case hr => exact qz28); intro w91 hw; have hg : wr.grownBy w91 (some go8) := (by rw [hw]; exact HP90.2); have hp_ : Kd.R Kd.bool 4 w91 w.heap.size (fun _ => True) (.slice (some ⟨go8, 0, none⟩) x7_2.length co8) y598 := (by rw [hw, Ny598.out]; exact HP90.1); clear HP90; have n0_ := aM (hp_); have n1_ := aM (Kd.R_over' (v := (.slice (some ⟨go8, 0, none⟩) x7_2.length co8)) (rr_ HO_8.out) (Kd.R_typed HO_7.out) (by decide) hg); have n2_ := aM (Kd.R_over' (v := (.slice (some ⟨go8, 0, none⟩) x7_2.length co8)) (rr_ HO_10.out) (Kd.R_typed HO_7.out) (by decide) hg); have n3_ := aM (blk_grown (bk_ BK552.out) hg (Kd.R_ne HO_7.out BK552.out (by decide))); have n4_ := aM ((by rw [hw]; exact below_set (HB.out) GB8.out : Below w.heap.size w w91)); clear HO_7 HO_8 HO_10 BK552 HB; have HO_7 := n0_; have HO_8 := n1_; have HO_10 := n2_; have BK552 := n3_; have HB := n4_; clear n0_ n1_ n2_ n3_ n4_; clear hg hw hp_; have p599 : 0 ≤ (x11_2 : Int) := of_decide_eq_true qz2; have q599 : x11_2 < (t562.length : Int) := of_decide_eq_true qz2; obtain ⟨ad599, e599, hx599_0⟩ := Kd.at_int (Kd.R_reads' HO_10.out).2.2 x11_2 p599 q599; obtain rfl : ad595 = ad599 := (by injection e599); replace p599 := eq_true p599; replace q599 := eq_true q599) | ((with_reducible refine gate_builtin (b := .append) (xs := #[.tmp 88, .tmp 93]) rfl ?_); at_builtin; refine Kd.R_append (Kd.int .i64) (w0 := w) w.heap.size rfl (.tmp 88) (.tmp 93) 24 3 (.int .i64 0) 8 rfl Try.underlying24 info3 rfl (by decide) (by omega) (.slice (some ad565) x8_2.length co89) x8_2 (rd t562 x11_2) [.int .i64 (rd t562 x11_2)] (fun k_ => some k_ ≠ (.slice (some ad595) t562.length co88 : Value).ownBlock) (fun _ => False) rfl rfl ?aP (fun _ hk => hk.elim) ?aF ?aO ?aB ?aS ?aL ?_; (case aP => exact rfl); (case aB => exact qz18); (case aF => exact (fun k_ hk => Kd.fresh' (Kd.R_lt (rr_ HO_10.out)) k_ hk)); (case aO => exact (rr_ HO_8.out)); (case aS => exact (below_size qz18)); (case aL => have := LMc87.out; omega); intro v601 w92 ho hb hg hat; rw [← Ny600.out] at ho; have n0_ := aM (Kd.R_over' (rr_ HO_7.out) (Kd.R_typed (rr_ HO_8.out)) (by decide) hg); have n1_ := aM (Kd.R_after (ok := (fun _ => True)) qz64 hg hat); have n2_ := aM (blk_grown (bk_ BK552.out) hg (Kd.R_ne HO_8.out BK552.out (by decide))); have n3_ := aM (hb); have n4_ := aM (ho); clear HO_7 HO_10 BK552 HB HO_8; have HO_7 := n0_; have HO_10 := n1_; have BK552 := n2_; have HB := n3_; have HO602 := n4_; clear n0_ n1_ n2_ n3_ n4_; clear ho hb hg hat))
     (try simp only [← hl7_2])
     go_roundg k2
     case measure => have := HK1.out; have := HK2.out; omega
     case rel => exact ⟨(y598), (y600), (wrap64 (x11_2 + 1)), qz5, H', ⟨by have := HK1.out; have := HK2.out; omega⟩, ⟨by (try simp only [hl7_1]); (try simp only [hl7_2]); exact rm_ HO_7.out⟩, ⟨by (try simp only [hl7_1]); (try simp only [hl7_2]); exact rm_ HO602.out⟩, ⟨by (try simp only [hl7_1]); (try simp only [hl7_2]); (with_reducible repeat (first | apply Kd.R_alloc | apply Kd.R_drewN | apply Kd.R_drew)); exact Kd.R_mono HO_10.out (fun _ hk => hk.2)⟩, ⟨by (try simp only [hl7_1]); (try simp only [hl7_2]); exact bk_ BK552.out⟩, ⟨by repeat (first | (with_reducible first | exact HB.out | apply below_alloc | apply pw_below_drewN | apply below_drew1 | refine below_set ?_ GE552.out) | exact HB.out)⟩⟩
     }
     {
     rw [if_neg c87] at H
     exact absurd H (by simp)
     }
     }
     }
     {
     rw [if_neg c81] at H
     exact absurd H (by simp)
     }
     }
     {
     rw [if_neg c80] at H
     exact absurd H (by simp)
     }
     }
     {
     rw [if_neg c79] at H
     exact absurd H (by simp)
     }
     }
     }
     }
     {
     rw [if_neg c25] at H
     exact absurd H (by simp)
     }
     }
     {
     rw [if_neg c24] at H
     exact absurd H (by simp)
     }
     }
     {
     rw [if_neg c23] at H
     have c23b0 := decide_eq_false c23
     (try (have c23b0q7_1 := c23b0; simp only [hl7_1] at c23b0q7_1))
     (try (have c23b0q7_2 := c23b0; simp only [hl7_2] at c23b0q7_2))
     clear c23
     have H' := aM H
     clear H
     obtain ⟨Ao93, co93, eo93⟩ := Kd.R_slice HO_10.out
     subst eo93
     go_wp2
     (try simp only [← hl7_1, ← hl7_2])
     go_roundg k2
     case measure => have := HK1.out; have := HK2.out; omega
     case rel => exact ⟨(x7_2), (x8_2), (wrap64 (x9_1 + 1)), qz5, H', ⟨by have := HK1.out; have := HK2.out; omega⟩, ⟨by (try simp only [hl7_1]); (try simp only [hl7_2]); exact rm_ HO_7.out⟩, ⟨by (try simp only [hl7_1]); (try simp only [hl7_2]); (with_reducible repeat (first | apply Kd.R_alloc | apply Kd.R_drewN | apply Kd.R_drew)); exact Kd.R_mono HO_8.out (fun _ hk => trivial)⟩, ⟨by (try simp only [hl7_1]); (try simp only [hl7_2]); exact bk_ BK552.out⟩, ⟨by repeat (first | (with_reducible first | exact HB.out | apply below_alloc | apply pw_below_drewN | apply below_drew1 | refine below_set ?_ GE552.out) | exact HB.out)⟩⟩
     }
   }
   {
   rw [if_neg c18] at H
   exact absurd H (by simp)
   }
   }
   {
   rw [if_neg c17] at H
   have c17b0 := decide_eq_false c17
   (try (have c17b0q7_1 := c17b0; simp only [hl7_1] at c17b0q7_1))
   clear c17
   by_cases c94 : 0 ≤ a2
   {
   rw [if_pos c94] at H
   have c94b0 := decide_eq_true c94
   clear c94
   by_cases c95 : a2 < (x7_1.length : Int)
   {
   rw [if_pos c95] at H
   have c95b0 := decide_eq_true c95
   (try (have c95b0q7_1 := c95b0; simp only [hl7_1] at c95b0q7_1))
   clear c95
   obtain rfl := Option.some.inj H
   simp only [Option.some.injEq, Prod.mk.injEq] at H
   obtain ⟨rfl⟩ := H
   obtain ⟨Ao96, co96, eo96⟩ := Kd.R_slice HO_8.out
   subst eo96
   have p560 : 0 ≤ (a2 : Int) := of_decide_eq_true qz2
   have q560 : a2 < (x7_1.length : Int) := of_decide_eq_true qz2
   obtain ⟨ad560, e560, hx560_0⟩ := Kd.at_bool (Kd.R_reads' HO_7.out).2.2 a2 p560 q560
   obtain rfl : (⟨go8, 0, none⟩ : Addr) = ad560 := (by injection e560)
   (first | simp only [add_plain] at hx560_0 | simp only [add_at] at hx560_0 | simp only [Addr.add, Nat.zero_add] at hx560_0 | skip)
   replace p560 := eq_true p560
   replace q560 := eq_true q560
   go_wp2
   go_ret
   exact ⟨by first | rfl | (simp [errW_none, errW_some] <;> rfl) | (simp [*, errW_none, errW_some] <;> rfl), by repeat (first | (with_reducible first | exact HB.out | apply below_alloc | apply pw_below_drewN | apply below_drew1 | refine below_set ?_ GE552.out) | exact HB.out)⟩
   }
   {
   rw [if_neg c95] at H
   exact absurd H (by simp)
   }
   }
   {
   rw [if_neg c94] at H
   exact absurd H (by simp)
   }
   }
 }
 {
 rw [if_neg c7] at H
 exact absurd H (by simp)
 }
 }
 {
 rw [if_neg c6] at H
 exact absurd H (by simp)
 }
 }
 {
 rw [if_neg c5] at H
 exact absurd H (by simp)
 }
 }
 {
 rw [if_neg c4] at H
 exact absurd H (by simp)

 }
end Go.Proofs.Ytbebfhlejnidkaa.PFnSound
