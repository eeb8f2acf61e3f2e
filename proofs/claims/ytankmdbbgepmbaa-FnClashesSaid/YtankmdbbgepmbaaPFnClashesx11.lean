-- Made by a program of this session out of the translation. Lean checks it.
import Derived.Test.YtankmdbbgepmbaaPFnClashesx10
namespace Go.Proofs.Ytankmdbbgepmbaa.PFnClashes
open Go.RowKit Go.Proofs.YtankmdbbgepmbaaW.PrintWords Go.Proofs.YtankmdbbgepmbaaW.PrintLast Go.Proofs.YtankmdbbgepmbaaW.PrintMore
set_option linter.unusedVariables false
set_option linter.unusedSimpArgs false
set_option maxHeartbeats 16000000
set_option maxRecDepth 100000

/-! ### impl_field: function 69 -/
mutual
def impl_field.l0 : Nat → Int → Bool → List Int → Int → Int → Int → Int → List Int → Option (List Int)
 | 0, _, _, _, _, _, _, _, _ => none
 | k + 1, x1, x2, x7, x18, x19, x312000, x312001, x312002 => if x19 < x18 then (if 0 ≤ x19 then (if x19 < (x7.length : Int) then (impl_field.l0 k x1 x2 (x7.set (x19 : Int).toNat (-1)) x18 (wrap64 (x19 + 1)) x312000 x312001 x312002) else (none)) else (none)) else (if 0 ≤ x1 then (if x1 < (x7.length : Int) then (impl_field.l1 k x1 x2 (x7.set (x1 : Int).toNat 0) (([x1] : List Int)) x312000 x312001 x312002) else (none)) else (none))
def impl_field.l1 : Nat → Int → Bool → List Int → List Int → Int → Int → List Int → Option (List Int)
 | 0, _, _, _, _, _, _, _ => none
 | k + 1, x1, x2, x7, x9, x312000, x312001, x312002 => if (x9.length : Int) > 0 then (if 0 < (x9.length : Int) then (if 1 ≤ (x9.length : Int) then ((some (x9.drop (1 : Int).toNat : List Int)).bind fun y321 => (if x2 = true then (if (rd x9 0) = x1 then (impl_field.j2 k x1 x2 x7 y321 (rd x9 0) false x312000 x312001 x312002) else (if 0 ≤ (rd x9 0) then (if (rd x9 0) < (x312002.length : Int) then (impl_field.j2 k x1 x2 x7 y321 (rd x9 0) ((rd x312002 (rd x9 0)) == 2) x312000 x312001 x312002) else (none)) else (none))) else (impl_field.j2 k x1 x2 x7 y321 (rd x9 0) false x312000 x312001 x312002))) else (none)) else (none)) else (some x7)
def impl_field.j2 : Nat → Int → Bool → List Int → List Int → Int → Bool → Int → Int → List Int → Option (List Int)
 | 0, _, _, _, _, _, _, _, _, _ => none
 | k + 1, x1, x2, x7, x9, x10, x52, x312000, x312001, x312002 => if x52 = true then (impl_field.l1 k x1 x2 x7 x9 x312000 x312001 x312002) else ((impl_near.f k x312000 x312001 x312002 x10 false).bind fun t325 => (impl_field.l2 k x1 x2 x7 x9 x10 t325 (t325.length : Int) 0 x312000 x312001 x312002))
def impl_field.l2 : Nat → Int → Bool → List Int → List Int → Int → List Int → Int → Int → Int → Int → List Int → Option (List Int)
 | 0, _, _, _, _, _, _, _, _, _, _, _ => none
 | k + 1, x1, x2, x7, x9, x10, x55, x56, x57, x312000, x312001, x312002 => if x57 < x56 then (if 0 ≤ x57 then (if x57 < (x55.length : Int) then (if 0 ≤ (rd x55 x57) then (if (rd x55 x57) < (x7.length : Int) then (if (rd x7 (rd x55 x57)) < 0 then (if 0 ≤ x10 then (if x10 < (x7.length : Int) then (if x9.length < 17592186044416 then (impl_field.l2 k x1 x2 (x7.set ((rd x55 x57) : Int).toNat (wrap64 ((rd x7 x10) + 1))) (x9 ++ [rd x55 x57]) x10 x55 x56 (wrap64 (x57 + 1)) x312000 x312001 x312002) else (none)) else (none)) else (none)) else (impl_field.l2 k x1 x2 x7 x9 x10 x55 x56 (wrap64 (x57 + 1)) x312000 x312001 x312002)) else (none)) else (none)) else (none)) else (none)) else (impl_field.l1 k x1 x2 x7 x9 x312000 x312001 x312002)
end
def impl_field.f (k : Nat) (a0_0 : Int) (a0_1 : Int) (l0_2 : List Int) (a1 : Int) (a2 : Bool) : Option (List Int) := if 0 ≤ (l0_2.length : Int) then (if ((l0_2.length : Int) : Int).toNat ≤ 35184372088832 then ((some (List.replicate ((l0_2.length : Int) : Int).toNat 0 : List Int)).bind fun y312 => (impl_field.l0 k a1 a2 y312 (y312.length : Int) 0 a0_0 a0_1 l0_2)) else (none)) else (none)
theorem impl_field.mono_l : ∀ k, (∀ y0 y1 y2 y3 y4 y5 y6 y7, LeO (impl_field.l0 k y0 y1 y2 y3 y4 y5 y6 y7) (impl_field.l0 (k + 1) y0 y1 y2 y3 y4 y5 y6 y7)) ∧ (∀ y0 y1 y2 y3 y4 y5 y6, LeO (impl_field.l1 k y0 y1 y2 y3 y4 y5 y6) (impl_field.l1 (k + 1) y0 y1 y2 y3 y4 y5 y6)) ∧ (∀ y0 y1 y2 y3 y4 y5 y6 y7 y8, LeO (impl_field.j2 k y0 y1 y2 y3 y4 y5 y6 y7 y8) (impl_field.j2 (k + 1) y0 y1 y2 y3 y4 y5 y6 y7 y8)) ∧ (∀ y0 y1 y2 y3 y4 y5 y6 y7 y8 y9 y10, LeO (impl_field.l2 k y0 y1 y2 y3 y4 y5 y6 y7 y8 y9 y10) (impl_field.l2 (k + 1) y0 y1 y2 y3 y4 y5 y6 y7 y8 y9 y10))
 | 0 => ⟨fun _ _ _ _ _ _ _ _ r h => by simp [impl_field.l0] at h, fun _ _ _ _ _ _ _ r h => by simp [impl_field.l1] at h, fun _ _ _ _ _ _ _ _ _ r h => by simp [impl_field.j2] at h, fun _ _ _ _ _ _ _ _ _ _ _ r h => by simp [impl_field.l2] at h⟩
 | k + 1 => by
  obtain ⟨ih0, ih1, ih2, ih3⟩ := impl_field.mono_l k
  refine ⟨?_, ?_, ?_, ?_⟩
  {
  intro y0 y1 y2 y3 y4 y5 y6 y7
  unfold impl_field.l0
  have j0 := @impl_near.mono
  exact qL
  }
  {
  intro y0 y1 y2 y3 y4 y5 y6
  unfold impl_field.l1
  have j0 := @impl_near.mono
  exact qL
  }
  {
  intro y0 y1 y2 y3 y4 y5 y6 y7 y8
  unfold impl_field.j2
  have j0 := @impl_near.mono
  exact qL
  }
  {
  intro y0 y1 y2 y3 y4 y5 y6 y7 y8 y9 y10
  unfold impl_field.l2
  have j0 := @impl_near.mono
  exact qL
  }
theorem impl_field.mono : ∀ a0 a1 a2 a3 a4 k, LeO (impl_field.f k a0 a1 a2 a3 a4) (impl_field.f (k + 1) a0 a1 a2 a3 a4) := by
 intro a0 a1 a2 a3 a4 k
 obtain ⟨ih0, ih1, ih2, ih3⟩ := impl_field.mono_l k
 unfold impl_field.f
 have j0 := @impl_near.mono
 exact qL
theorem impl_field.calls (k : Nat) (a0_0 : Int) (a0_1 : Int) (A0_2 : Option Addr) (c0_2 : Nat) (l0_2 : List Int) (a1 : Int) (a2 : Bool) (r : List Int) (w : World) (hr0_2 : Kd.C (Kd.int .i64) w A0_2 l0_2.length l0_2) (hc0_2 : l0_2.length ≤ c0_2) (h : impl_field.f k a0_0 a0_1 l0_2 a1 a2 = some r) :
  Calls Try.prog 69 #[.agg #[.int .i64 a0_0, .int .i64 a0_1, .slice A0_2 l0_2.length c0_2], .int .i64 a1, .bool a2] w fun e w' => ∃ v0_ : Value, e = .returned (v0_) ∧ Kd.R (Kd.int .i64) 3 w' w.heap.size (fun _ => True) v0_ r ∧ Below w.heap.size w w' := by
 have hu43 := Try.underlying43
 have HR0_2 := aM hr0_2
 have HC0_2 := aM hc0_2
 clear hr0_2 hc0_2
 have HB := aM (Below.refl w.heap.size w)
 unfold impl_field.f at h
 have H := h
 clear h
 replace H := iN_ H
 obtain ⟨c4, H⟩ := H
 have c4b0 := eq_true c4
 have c4b1 := decide_eq_true c4
 clear c4
 replace H := iN_ H
 obtain ⟨c5, H⟩ := H
 have c5b0 := eq_true c5
 have c5b1 := decide_eq_true c5
 clear c5
 obtain ⟨y312, hy312⟩ : ∃ y_ : List Int, y_ = (List.replicate ((l0_2.length : Int) : Int).toNat 0) := ⟨_, rfl⟩
 replace H := yB_ hy312 H
 have Ny312 := aM hy312
 clear hy312
 have H' := aM H
 clear H
 go_enter Try.func69, Try.ntmps69
 go_wp2_with (first | ((with_reducible refine gate_dst (N := 3) rfl ?_); refine bx_ 3 #[.int .i64 a0_0, .int .i64 a0_1, .slice A0_2 l0_2.length c0_2] 43 ?_; intro gb311 hg w6 hbox hb; have BK311 := aM (hbox); have GW311 := aM (bz_ w hg qz1); have GE311 := GW311; replace HB := bS_ hb; clear hb hbox hg; obtain ⟨hcz7_0, hcz7_1, hcz7_2, hfz7_0, hfz7_1, hfz7_2⟩ := b6_ BK311.out) | ((with_reducible refine gate_dst (N := 16) rfl ?_); refine Kd.R_make (Kd.int .i64) _ 3 rfl (N := 16) rfl 24 _ _ rfl (l0_2.length : Int) rfl rfl Try.underlying24 (.int .i64 0) 8 info3 rfl (by decide) (by omega) 0 (ok := fun _ => True) (okp := fun _ => True) rfl (fun _ hk => hk) trivial (dt_) (Nat.le_trans (Nat.mul_le_mul_right _ (dt_ : (l0_2.length : Int).toNat ≤ 35184372088832)) (by omega)) (Below.refl _ _) (Nat.le_refl _) ?_; intro v313 w8 ho9 hb hg_ hnew_; clear hg_ hnew_; (first | rw [← Ny312.out] at ho9 | (simp only [Int.reduceToNat] at ho9; rw [← Ny312.out] at ho9)); have HO314 := aM (Kd.R_lower ho9 (below_size qz1)); replace BK311 := bB_ BK311 hb; replace HB := bS_ hb; clear hb ho9; obtain ⟨Ao10, co10, eo10⟩ := Kd.R_slice HO314.out; subst eo10))
 go_loopg [19] k (fun kq v19 w' => ∃ (x7_1 : List Int) (x19_1 : Int), v19 = .int .i64 x19_1 ∧ Aside0 (impl_field.l0 kq a1 a2 x7_1 (y312.length : Int) x19_1 a0_0 a0_1 l0_2 = some r) ∧ Aside0 (kq ≤ k) ∧ Aside0 (Kd.R (Kd.int .i64) 3 w' w.heap.size (fun _ => True) (.slice Ao10 y312.length co10) x7_1) ∧ Aside0 (w'.heap[gb311]? = some (.cells #[.int .i64 a0_0, .int .i64 a0_1, (.slice A0_2 l0_2.length c0_2)] 43 (0, 0))) ∧ Aside0 (Below w.heap.size w w'))
 case atStart => exact ⟨(y312), (0), qz7, H', ⟨Nat.le_refl _⟩, ⟨rr_ HO314.out⟩, ⟨bk_ BK311.out⟩, ⟨qz1⟩⟩
 case round =>
 clear H'
 try clear c4
 try clear c4b0
 try clear c4b1
 try clear c5
 try clear c5b0
 try clear c5b1
 try clear hcz7_0 hcz7_1 hcz7_2 hfz7_0 hfz7_1 hfz7_2
 obtain ⟨x7_1, x19_1, rfl, HA, HK1, HO_7, BK311, HB⟩ := hrel
 have hl7_1 := (Kd.R_reads' HO_7.out).1
 rw [hl7_1] at HO_7
 (try simp only [hl7_1])
 (try simp only [hl7_1] at BK311)
 cases gk with
 | zero => exact absurd HA.out (by simp [impl_field.l0])
 | succ k1 =>
 have H := HA.out
 clear HA
 simp only [impl_field.l0] at H
 replace H := iS_ H
 rcases H with ⟨c11, H⟩ | ⟨c11, H⟩
 {
 have c11b0 := decide_eq_true c11
 (try (have c11b0q7_1 := c11b0; simp only [hl7_1] at c11b0q7_1))
 clear c11
 replace H := iD_ H
 obtain ⟨c12b0, H⟩ := H
 replace H := iN_ H
 obtain ⟨c13, H⟩ := H
 have c13b0 := decide_eq_true c13
 (try (have c13b0q7_1 := c13b0; simp only [hl7_1] at c13b0q7_1))
 clear c13
 obtain ⟨y315, hy315⟩ : ∃ y_ : List Int, y_ = (x7_1.set (x19_1 : Int).toNat (-1)) := ⟨_, rfl⟩
 replace H : (impl_field.l0 k1 a1 a2 y315 (y312.length : Int) (wrap64 (x19_1 + 1)) a0_0 a0_1 l0_2) = some r := by first | (rw [hy315]; exact H) | exact H
 have Ny315 := aM hy315
 clear hy315
 have H' := aM H
 clear H
 have p14 : 0 ≤ (x19_1 : Int) := dt_
 have q14 : (x19_1 : Int) < ((x7_1.length : Int) : Int) := dt_
 obtain ⟨go14, co14, eo14, gb14, gl14, cl14, HG14⟩ := Kd.R_form HO_7.out (by omega)
 (first | cases eo14 | (injection eo14 with ea_ en_ ec_; (first | subst ea_ | (injection ea_ with ea_; subst ea_)); subst ec_; clear en_))
 have GB14 := aM gb14
 have GG14 := aM HG14
 clear gb14 gl14 HG14
 obtain ⟨hx14_0, hf14_0⟩ := Kd.R_celln 0 HO_7.out (x19_1 : Int) p14 q14
 replace p14 := eq_true p14
 replace q14 := eq_true q14
 have HP15 := Kd.R_putg HO_7.out (x19_1 : Int) (-1)
 go_wp2_with (first | ((with_reducible refine gate_store (t := 3) (p := 24) rfl ?_); refine store_event (t := 3) (p := 24) (v := ?vo_w16) (w1 := (wr.setCell ⟨go14, (x19_1 : Int).toNat, none⟩ (.int .i64 (-1)))) ?hg ?ho ?hn ?hr ?_; (case ho => rfl); (case hg => rfl); (case hn => rfl); (case hr => exact qz9); intro w16 hw; have hg : wr.grownBy w16 (some go14) := (by rw [hw]; exact HP15.2); have hp_ : Kd.R (Kd.int .i64) 3 w16 w.heap.size (fun _ => True) (.slice (some ⟨go14, 0, none⟩) x7_1.length co10) y315 := (by rw [hw, Ny315.out]; exact HP15.1); clear HP15; replace BK311 := aM (blk_grown (bk_ BK311.out) hg (Kd.R_ne HO_7.out BK311.out (by decide))); replace HO_7 := aM (hp_); replace HB := aM ((by rw [hw]; exact below_set (HB.out) GB14.out : Below w.heap.size w w16)); clear hg hw hp_))
 (try simp only [← hl7_1])
 go_roundg k1
 case measure => have := HK1.out; omega
 case rel => exact ⟨(y315), (wrap64 (x19_1 + 1)), qz7, H', ⟨by have := HK1.out; omega⟩, ⟨by (try simp only [hl7_1]); exact rm_ HO_7.out⟩, ⟨by (try simp only [hl7_1]); exact bk_ BK311.out⟩, ⟨qz1⟩⟩
 }
 {
 have c11b0 := decide_eq_false c11
 (try (have c11b0q7_1 := c11b0; simp only [hl7_1] at c11b0q7_1))
 clear c11
 replace H := iD_ H
 obtain ⟨c17b0, H⟩ := H
 replace H := iN_ H
 obtain ⟨c18, H⟩ := H
 have c18b0 := decide_eq_true c18
 (try (have c18b0q7_1 := c18b0; simp only [hl7_1] at c18b0q7_1))
 clear c18
 obtain ⟨y316, hy316⟩ : ∃ y_ : List Int, y_ = (x7_1.set (a1 : Int).toNat 0) := ⟨_, rfl⟩
 replace H : (impl_field.l1 k1 a1 a2 y316 (([a1] : List Int)) a0_0 a0_1 l0_2) = some r := by first | (rw [hy316]; exact H) | exact H
 have Ny316 := aM hy316
 clear hy316
 obtain ⟨y317, hy317⟩ : ∃ y_ : List Int, y_ = (([a1] : List Int)) := ⟨_, rfl⟩
 replace H : (impl_field.l1 k1 a1 a2 y316 y317 a0_0 a0_1 l0_2) = some r := by first | (rw [hy317]; exact H) | exact H
 have Ny317 := aM hy317
 clear hy317
 have H' := aM H
 clear H
 have p19 : 0 ≤ (a1 : Int) := dt_
 have q19 : (a1 : Int) < ((x7_1.length : Int) : Int) := dt_
 obtain ⟨go19, co19, eo19, gb19, gl19, cl19, HG19⟩ := Kd.R_form HO_7.out (by omega)
 (first | cases eo19 | (injection eo19 with ea_ en_ ec_; (first | subst ea_ | (injection ea_ with ea_; subst ea_)); subst ec_; clear en_))
 have GB19 := aM gb19
 have GG19 := aM HG19
 clear gb19 gl19 HG19
 obtain ⟨hx19_0, hf19_0⟩ := Kd.R_celln 0 HO_7.out (a1 : Int) p19 q19
 replace p19 := eq_true p19
 replace q19 := eq_true q19
 have HP20 := Kd.R_putg HO_7.out (a1 : Int) 0
 go_wp2_with (first | ((with_reducible refine gate_store (t := 3) (p := 28) rfl ?_); refine store_event (t := 3) (p := 28) (v := ?vo_w21) (w1 := (wr.setCell ⟨go19, (a1 : Int).toNat, none⟩ (.int .i64 0))) ?hg ?ho ?hn ?hr ?_; (case ho => rfl); (case hg => rfl); (case hn => rfl); (case hr => exact qz9); intro w21 hw; have hg : wr.grownBy w21 (some go19) := (by rw [hw]; exact HP20.2); have hp_ : Kd.R (Kd.int .i64) 3 w21 w.heap.size (fun _ => True) (.slice (some ⟨go19, 0, none⟩) x7_1.length co10) y316 := (by rw [hw, Ny316.out]; exact HP20.1); clear HP20; replace BK311 := aM (blk_grown (bk_ BK311.out) hg (Kd.R_ne HO_7.out BK311.out (by decide))); replace HO_7 := aM (hp_); replace HB := aM ((by rw [hw]; exact below_set (HB.out) GB19.out : Below w.heap.size w w21)); clear hg hw hp_) | ((with_reducible refine gate_dst (N := 30) rfl ?_); refine Kd.R_lit (Kd.int .i64) _ 3 ?hg (N := 30) ?hd (xs := ([a1] : List Int)) (inner := [.int .i64 a1]) (ok := fun _ => True) (okp := fun _ => True) ?hr ?hp (fun _ hk => hk) trivial (Below.refl _ _) (Nat.le_refl _) (by simp) ?_; (case hd => rfl); (case hg => rfl); (case hr => exact qz9); (case hp => exact (Reps.one (show Kd.M (Kd.int .i64) _ _ _ a1 [.int .i64 a1] from rfl) (Reps.none _ _))); intro v318 w22 ho23 hb hg_ hnew_; clear hg_ hnew_; (first | rw [← Ny317.out] at ho23 | (simp only [Int.reduceToNat] at ho23; rw [← Ny317.out] at ho23)); have HO319 := aM (Kd.R_lower (Kd.R_new' ho23 (Kd.R_lt (rr_ HO_7.out))) (below_size qz1)); replace HO_7 := aM (Kd.R_elder' (rr_ HO_7.out) (Kd.R_base ho23) hb); replace BK311 := bB_ BK311 hb; replace HB := bS_ hb; clear hb ho23))
 go_loopg [9] k1 (fun kq v9 w' => ∃ (x7_2 : List Int) (x9_2 : List Int), Aside0 (impl_field.l1 kq a1 a2 x7_2 x9_2 a0_0 a0_1 l0_2 = some r) ∧ Aside0 (kq ≤ k1) ∧ Aside0 (Kd.R (Kd.int .i64) 3 w' w.heap.size (fun k_ => some k_ ≠ (v9 : Value).ownBlock) (.slice (some ⟨go19, 0, none⟩) x7_1.length co10) x7_2) ∧ Aside0 (Kd.Q (Kd.int .i64) 3 w' w.heap.size (fun k_ => some k_ ≠ ((.slice (some ⟨go19, 0, none⟩) x7_1.length co10) : Value).ownBlock) v9 x9_2) ∧ Aside0 (w'.heap[gb311]? = some (.cells #[.int .i64 a0_0, .int .i64 a0_1, (.slice A0_2 l0_2.length c0_2)] 43 (0, 0))) ∧ Aside0 (Below w.heap.size w w'))
 case atStart => exact ⟨(y316), (y317), H', ⟨Nat.le_refl _⟩, ⟨by (try simp only [hl7_1]); (with_reducible repeat (first | apply Kd.R_alloc | apply Kd.R_drewN | apply Kd.R_drew)); exact Kd.R_mono HO_7.out (fun _ hk => hk.2)⟩, ⟨Kd.Q_of_R (by (try simp only [hl7_1]); (with_reducible repeat (first | apply Kd.R_alloc | apply Kd.R_drewN | apply Kd.R_drew)); exact Kd.R_mono HO319.out (fun _ hk => hk.2))⟩, ⟨by (try simp only [hl7_1]); exact bk_ BK311.out⟩, ⟨qz1⟩⟩
 case round =>
 clear H'
 try clear c4
 try clear c4b0
 try clear c4b1
 try clear c5
 try clear c5b0
 try clear c5b1
 try clear c11
 try clear c11b0
 try clear hf14
 try clear c17
 try clear c17b0
 try clear c18
 try clear c18b0
 try clear p19
 try clear q19
 try clear hf19
 try clear hcz7_0 hcz7_1 hcz7_2 hfz7_0 hfz7_1 hfz7_2
 try clear hx19_0
 obtain ⟨x7_2, x9_2, HA, HK2, HO_7, HO_9, BK311, HB⟩ := hrel
 have hl7_2 := (Kd.R_reads' HO_7.out).1
 rw [hl7_2] at HO_7
 (try simp only [hl7_2])
 (try simp only [hl7_2] at BK311)
 (try simp only [hl7_2] at HO_9)
 cases gk with
 | zero => exact absurd HA.out (by simp [impl_field.l1])
 | succ k2 =>
 have H := HA.out
 clear HA
 simp only [impl_field.l1] at H
 replace H := iS_ H
 rcases H with ⟨c24, H⟩ | ⟨c24, H⟩
 {
 have c24b0 := decide_eq_true c24
 (try (have c24b0q7_1 := c24b0; simp only [hl7_1] at c24b0q7_1))
 (try (have c24b0q7_2 := c24b0; simp only [hl7_2] at c24b0q7_2))
 have c24b1 : decide (0 < x9_2.length) = true := decide_eq_true (by omega)
 (try (have c24b1q7_1 := c24b1; simp only [hl7_1] at c24b1q7_1))
 (try (have c24b1q7_2 := c24b1; simp only [hl7_2] at c24b1q7_2))
 clear c24
 replace H := iN_ H
 obtain ⟨c25, H⟩ := H
 have c25b0 := decide_eq_true c25
 (try (have c25b0q7_1 := c25b0; simp only [hl7_1] at c25b0q7_1))
 (try (have c25b0q7_2 := c25b0; simp only [hl7_2] at c25b0q7_2))
 have c25b1 : decide (0 < x9_2.length) = true := decide_eq_true (by omega)
 (try (have c25b1q7_1 := c25b1; simp only [hl7_1] at c25b1q7_1))
 (try (have c25b1q7_2 := c25b1; simp only [hl7_2] at c25b1q7_2))
 clear c25
 replace H := iN_ H
 obtain ⟨c26, H⟩ := H
 have c26b0 := eq_true c26
 have c26b1 := decide_eq_true c26
 (try (have c26b1q7_1 := c26b1; simp only [hl7_1] at c26b1q7_1))
 (try (have c26b1q7_2 := c26b1; simp only [hl7_2] at c26b1q7_2))
 clear c26
 obtain ⟨y321, hy321⟩ : ∃ y_ : List Int, y_ = (x9_2.drop (1 : Int).toNat) := ⟨_, rfl⟩
 replace H := yB_ hy321 H
 have Ny321 := aM hy321
 clear hy321
 have HC27 := aM H
 clear H
 obtain ⟨Ao28, co28, eo28, _⟩ := Kd.Q_slice HO_9.out
 subst eo28
 have p320 : 0 ≤ (0 : Int) := (by omega)
 have q320 : 0 < (x9_2.length : Int) := dt_
 obtain ⟨ad320, e320, hx320_0⟩ := Kd.at_int (Kd.Q_reads' HO_9.out).2.2 0 p320 q320
 cases e320
 have qi320 : (0 < x9_2.length) = True := eq_true (by omega)
 (try rw [show ((0 : Int)).toNat = 0 from rfl] at hx320_0)
 (try rw [Addr.add_zero'] at hx320_0)
 replace p320 := eq_true p320
 replace q320 := eq_true q320
 have q29 : (1 : Int) ≤ ((x9_2.length : Int) : Int) := dt_
 obtain ⟨i029, hi029, _, hsz29, _⟩ := info_parts info3
 have hcut29 := cut_from (P := Try.prog) 24 3 .i64 Try.underlying24 hi029 1 hsz29 (some ad320) x9_2.length co28 1 (by omega) q29
 have hr29 := Kd.Q_drop (k := (1 : Int).toNat) HO_9.out (by omega)
 obtain ⟨A29, hA29⟩ : ∃ A1, A1 = (if co28 = (1 : Int).toNat then (some ad320) else ((some ad320) : Option Addr).map (·.add ((1 : Int).toNat * 1))) := ⟨_, rfl⟩
 obtain ⟨c29, hc29⟩ : ∃ c1, c1 = co28 - (1 : Int).toNat := ⟨_, rfl⟩
 have hy29 : y321.length = x9_2.length - (1 : Int).toNat := (by rw [Ny321.out, List.length_drop])
 rw [← Ny321.out] at hr29
 rw [← hy29, ← hA29, ← hc29] at hcut29
 replace hr29 : Kd.Q (Kd.int .i64) 3 wr w.heap.size (fun k_ => some k_ ≠ (.slice (some ⟨go19, 0, none⟩) x7_2.length co10 : Value).ownBlock) (.slice A29 y321.length c29) y321 := (by rw [hA29, hc29, hy29]; exact hr29)
 have HE29 : Aside0 ((Value.slice A29 y321.length c29).ownBlock = (.slice (some ad320) x9_2.length co28 : Value).ownBlock) := ⟨by rw [hA29]; split <;> (cases ((some ad320) : Option Addr) <;> rfl)⟩
 clear hy29 hi029 hsz29 HO_9 hA29 hc29
 have HO323 := aM hr29
 clear hr29
 replace q29 := eq_true q29
 have n_ := aM (Kd.R_mono (ok' := fun k_ => some k_ ≠ (.slice A29 y321.length c29 : Value).ownBlock) HO_7.out (fun k_ hk => (by rw [HE29.out]; exact hk)))
 clear HO_7
 have HO_7 := n_
 clear n_
 go_upto_region 12 with (fail)
 go_cut [52] (fun v52 wc => ∃ (kq : Nat) (x52_26 : Bool), v52 = .bool x52_26 ∧ Aside0 (impl_field.j2 kq a1 a2 x7_2 y321 (rd x9_2 0) x52_26 a0_0 a0_1 l0_2 = some r) ∧ Aside0 (kq ≤ k2) ∧ Aside0 (Kd.R (Kd.int .i64) 3 wc w.heap.size (fun k_ => some k_ ≠ ((.slice A29 y321.length c29) : Value).ownBlock) (.slice (some ⟨go19, 0, none⟩) x7_2.length co10) x7_2) ∧ Aside0 (Kd.Q (Kd.int .i64) 3 wc w.heap.size (fun k_ => some k_ ≠ ((.slice (some ⟨go19, 0, none⟩) x7_2.length co10) : Value).ownBlock) (.slice A29 y321.length c29) y321) ∧ Aside0 (wc.heap[gb311]? = some (.cells #[.int .i64 a0_0, .int .i64 a0_1, (.slice A0_2 l0_2.length c0_2)] 43 (0, 0))) ∧ Aside0 (Below w.heap.size w wc))
 case first =>
  have H := HC27.out
  clear HC27
  replace H := iB_ H
  rcases H with ⟨rfl, H⟩ | ⟨rfl, H⟩
  {
  replace H := iQ_ H
  rcases H with ⟨c31b0, c31b1, H⟩ | ⟨c31, c31b0, c31b1, H⟩
  {
  (first | rw [c31b0] | (simp only [i64_w, i32_w]; rw [c31b0]) | rw [@decide_eq_true _ _ (of_decide_eq_true c31b0)] | rw [@decide_eq_true _ _ (of_decide_eq_true c31b1)] | skip)
  have H' := aM H
  clear H
  go_wp2
  go_meet
  case rel => exact ⟨_, (false), qz7, H', ⟨by have := HK1.out; have := HK2.out; first | omega | exact Nat.le_refl _⟩, ⟨by (try simp only [hl7_1]); (try simp only [hl7_2]); exact rm_ HO_7.out⟩, ⟨by (try simp only [hl7_1]); (try simp only [hl7_2]); (with_reducible repeat (first | apply Kd.Q_alloc | apply Kd.Q_drewN | apply Kd.Q_drew)); (first | exact HO323.out | exact Kd.R_mono HO323.out (fun _ h_ => h_.1) | exact Kd.R_mono HO323.out (fun _ h_ => h_.2))⟩, ⟨by (try simp only [hl7_1]); (try simp only [hl7_2]); exact bk_ BK311.out⟩, ⟨qz1⟩⟩
  }
  {
  (first | rw [c31b0] | (simp only [i64_w, i32_w]; rw [c31b0]) | rw [@decide_eq_false _ _ (of_decide_eq_false c31b0)] | rw [@decide_eq_false _ _ (of_decide_eq_false c31b1)] | skip)
  replace H := iD_ H
  obtain ⟨c32b0, H⟩ := H
  replace H := iN_ H
  obtain ⟨c33, H⟩ := H
  have c33b0 := decide_eq_true c33
  (try (have c33b0q7_1 := c33b0; simp only [hl7_1] at c33b0q7_1))
  (try (have c33b0q7_2 := c33b0; simp only [hl7_2] at c33b0q7_2))
  clear c33
  have H' := aM H
  clear H
  obtain ⟨hcz34_0, hcz34_1, hcz34_2, hfz34_0, hfz34_1, hfz34_2⟩ := b6_ BK311.out
  have p324 : (0 ≤ ((rd x9_2 0) : Int)) = True := et_
  have q324 : ((rd x9_2 0) < (l0_2.length : Int)) = True := et_
  obtain ⟨ad324, e324, hx324_0⟩ := tC1_ (Kd.at_int HR0_2.out (rd x9_2 0) dt_ dt_)
  cases e324
  go_wp2
  go_meet
  case rel => exact ⟨_, (((rd l0_2 (rd x9_2 0)) == 2)), qz7, H', ⟨by have := HK1.out; have := HK2.out; first | omega | exact Nat.le_refl _⟩, ⟨by (try simp only [hl7_1]); (try simp only [hl7_2]); exact rm_ HO_7.out⟩, ⟨by (try simp only [hl7_1]); (try simp only [hl7_2]); (with_reducible repeat (first | apply Kd.Q_alloc | apply Kd.Q_drewN | apply Kd.Q_drew)); (first | exact HO323.out | exact Kd.R_mono HO323.out (fun _ h_ => h_.1) | exact Kd.R_mono HO323.out (fun _ h_ => h_.2))⟩, ⟨by (try simp only [hl7_1]); (try simp only [hl7_2]); exact bk_ BK311.out⟩, ⟨qz1⟩⟩
  }
  }
  {
  have H' := aM H
  clear H
  go_wp2
  go_meet
  case rel => exact ⟨_, (false), qz7, H', ⟨by have := HK1.out; have := HK2.out; first | omega | exact Nat.le_refl _⟩, ⟨by (try simp only [hl7_1]); (try simp only [hl7_2]); exact rm_ HO_7.out⟩, ⟨by (try simp only [hl7_1]); (try simp only [hl7_2]); (with_reducible repeat (first | apply Kd.Q_alloc | apply Kd.Q_drewN | apply Kd.Q_drew)); (first | exact HO323.out | exact Kd.R_mono HO323.out (fun _ h_ => h_.1) | exact Kd.R_mono HO323.out (fun _ h_ => h_.2))⟩, ⟨by (try simp only [hl7_1]); (try simp only [hl7_2]); exact bk_ BK311.out⟩, ⟨qz1⟩⟩
  }
 case rest =>
 clear HC27
 try clear c1
 try clear qi3
 try clear c4
 try clear c4b0
 try clear c4b1
 try clear c5
 try clear c5b0
 try clear c5b1
 try clear c11
 try clear c11b0
 try clear hf14
 try clear c17
 try clear c17b0
 try clear c18
 try clear c18b0
 try clear p19
 try clear q19
 try clear hf19
 try clear c24
 try clear c24b0
 try clear c24b1
 try clear c25
 try clear c25b0
 try clear c25b1
 try clear c26
 try clear c26b0
 try clear c26b1
 try clear c29
 try clear q29
 try clear qi32
 try clear hcz7_0 hcz7_1 hcz7_2 hfz7_0 hfz7_1 hfz7_2
 try clear hx19_0
 try clear hx320_0
 try clear p320
 try clear q320
 obtain ⟨kq, x52_26, rfl, HA, HJ26, HO_7, HO_9, BK311, HB⟩ := hcut
 cases kq with
 | zero => exact absurd HA.out (by simp [impl_field.j2])
 | succ kj26 =>
 have H := HA.out
 clear HA
 simp only [impl_field.j2] at H
 replace H := iB_ H
 rcases H with ⟨rfl, H⟩ | ⟨rfl, H⟩
 {
 have H' := aM H
 clear H
 go_wp2
 (try simp only [← hl7_2])
 go_roundg kj26
 case measure => have := HK1.out; have := HK2.out; have := HJ26.out; omega
 case rel => exact ⟨(x7_2), (y321), H', ⟨by have := HK1.out; have := HK2.out; have := HJ26.out; omega⟩, ⟨by (try simp only [hl7_1]); (try simp only [hl7_2]); exact rm_ HO_7.out⟩, ⟨by (try simp only [hl7_1]); (try simp only [hl7_2]); (with_reducible repeat (first | apply Kd.Q_alloc | apply Kd.Q_drewN | apply Kd.Q_drew)); (first | exact HO_9.out | exact Kd.R_mono HO_9.out (fun _ h_ => h_.1) | exact Kd.R_mono HO_9.out (fun _ h_ => h_.2))⟩, ⟨by (try simp only [hl7_1]); (try simp only [hl7_2]); exact bk_ BK311.out⟩, ⟨qz1⟩⟩
 }
 {
 replace H := Option.bind_eq_some_iff.mp H
 obtain ⟨t325, A360, H⟩ := H
 have A36 := aM A360
 clear A360
 have H' := aM H
 clear H
 obtain ⟨hcz37_0, hcz37_1, hcz37_2, hfz37_0, hfz37_1, hfz37_2⟩ := b6_ BK311.out
 go_wp2_with (first | ((with_reducible refine gate_callee (f := 66) rfl ?_); refine goesL_ (some 55) rfl rfl Try.func66 (by kernel_rfl) rfl #[.agg #[.int .i64 a0_0, .int .i64 a0_1, .slice A0_2 l0_2.length c0_2], .int .i64 (rd x9_2 0), .bool false] rfl qz2 ?_; (with_reducible refine (impl_near.calls kj26 a0_0 a0_1 _ _ l0_2 (rd x9_2 0) false t325 _ ?_ ?_ A36.out).mono ?_); exact qz6; exact qz28; rintro e w38 ⟨v326, rfl, ho0, hb⟩; refine ⟨_, rfl, ?_⟩; have HO327 := aM (Kd.R_lower (Kd.R_new' (Kd.R_new' ho0 (Kd.R_lt (rr_ HO_7.out))) (Kd.Q_lt (by (with_reducible repeat (first | apply Kd.Q_alloc | apply Kd.Q_drewN | apply Kd.Q_drew)); exact HO_9.out))) (below_size qz1)); replace HO_7 := aM (Kd.R_elder' (rr_ HO_7.out) (Kd.R_base ho0) hb); replace HO_9 := aM (Kd.Q_elder' (by (with_reducible repeat (first | apply Kd.Q_alloc | apply Kd.Q_drewN | apply Kd.Q_drew)); exact HO_9.out) (Kd.R_base ho0) hb); replace BK311 := bB_ BK311 hb; replace HB := bS_ hb; (try clear hb ho0); obtain ⟨Ao39, co39, eo39⟩ := Kd.R_slice HO327.out; subst eo39))
 go_loopg [9, 57] kj26 (fun kq v9 v57 w' => ∃ (x7_4 : List Int) (x9_4 : List Int) (x57_4 : Int), v57 = .int .i64 x57_4 ∧ Aside0 (impl_field.l2 kq a1 a2 x7_4 x9_4 (rd x9_2 0) t325 (t325.length : Int) x57_4 a0_0 a0_1 l0_2 = some r) ∧ Aside0 (kq ≤ kj26) ∧ Aside0 (Kd.R (Kd.int .i64) 3 w' w.heap.size (fun k_ => some k_ ≠ (v9 : Value).ownBlock ∧ some k_ ≠ ((.slice Ao39 t325.length co39) : Value).ownBlock) (.slice (some ⟨go19, 0, none⟩) x7_2.length co10) x7_4) ∧ Aside0 (Kd.Q (Kd.int .i64) 3 w' w.heap.size (fun k_ => some k_ ≠ ((.slice (some ⟨go19, 0, none⟩) x7_2.length co10) : Value).ownBlock ∧ some k_ ≠ ((.slice Ao39 t325.length co39) : Value).ownBlock) v9 x9_4) ∧ Aside0 (Kd.R (Kd.int .i64) 3 w' w.heap.size (fun k_ => some k_ ≠ ((.slice (some ⟨go19, 0, none⟩) x7_2.length co10) : Value).ownBlock ∧ some k_ ≠ (v9 : Value).ownBlock) (.slice Ao39 t325.length co39) t325) ∧ Aside0 (w'.heap[gb311]? = some (.cells #[.int .i64 a0_0, .int .i64 a0_1, (.slice A0_2 l0_2.length c0_2)] 43 (0, 0))) ∧ Aside0 (Below w.heap.size w w'))
 case atStart => exact ⟨(x7_2), (y321), (0), qz7, H', ⟨Nat.le_refl _⟩, ⟨by (try simp only [hl7_1]); (try simp only [hl7_2]); exact rr_ HO_7.out⟩, ⟨by (try simp only [hl7_1]); (try simp only [hl7_2]); (with_reducible repeat (first | apply Kd.Q_alloc | apply Kd.Q_drewN | apply Kd.Q_drew)); exact HO_9.out⟩, ⟨by (try simp only [hl7_1]); (try simp only [hl7_2]); (with_reducible repeat (first | apply Kd.R_alloc | apply Kd.R_drewN | apply Kd.R_drew)); exact Kd.R_mono HO327.out (fun _ hk => ⟨hk.1.2, hk.2⟩)⟩, ⟨by (try simp only [hl7_1]); (try simp only [hl7_2]); exact bk_ BK311.out⟩, ⟨qz1⟩⟩
 case round =>
 clear H'
 try clear c1
 try clear qi3
 try clear c4
 try clear c4b0
 try clear c4b1
 try clear c5
 try clear c5b0
 try clear c5b1
 try clear c11
 try clear c11b0
 try clear hf14
 try clear c17
 try clear c17b0
 try clear c18
 try clear c18b0
 try clear p19
 try clear q19
 try clear hf19
 try clear c24
 try clear c24b0
 try clear c24b1
 try clear c25
 try clear c25b0
 try clear c25b1
 try clear c26
 try clear c26b0
 try clear c26b1
 try clear c29
 try clear q29
 try clear qi32
 try clear c35
 try clear hcz37_0 hcz37_1 hcz37_2 hfz37_0 hfz37_1 hfz37_2
 try clear hcz7_0 hcz7_1 hcz7_2 hfz7_0 hfz7_1 hfz7_2
 try clear hx19_0
 try clear hx320_0
 try clear p320
 try clear q320
 obtain ⟨x7_4, x9_4, x57_4, rfl, HA, HK4, HO_7, HO_9, HO_55, BK311, HB⟩ := hrel
 have hl7_4 := (Kd.R_reads' HO_7.out).1
 rw [hl7_4] at HO_7
 (try simp only [hl7_4])
 (try simp only [hl7_4] at BK311)
 (try simp only [hl7_4] at HO_9)
 (try simp only [hl7_4] at HO_55)
 cases gk with
 | zero => exact absurd HA.out (by simp [impl_field.l2])
 | succ k4 =>
 have H := HA.out
 clear HA
 simp only [impl_field.l2] at H
 replace H := iS_ H
 rcases H with ⟨c40, H⟩ | ⟨c40, H⟩
 {
 have c40b0 := decide_eq_true c40
 (try (have c40b0q7_1 := c40b0; simp only [hl7_1] at c40b0q7_1))
 (try (have c40b0q7_2 := c40b0; simp only [hl7_2] at c40b0q7_2))
 (try (have c40b0q7_4 := c40b0; simp only [hl7_4] at c40b0q7_4))
 clear c40
 replace H := iD_ H
 obtain ⟨c41b0, H⟩ := H
 replace H := iN_ H
 obtain ⟨c42, H⟩ := H
 have c42b0 := decide_eq_true c42
 (try (have c42b0q7_1 := c42b0; simp only [hl7_1] at c42b0q7_1))
 (try (have c42b0q7_2 := c42b0; simp only [hl7_2] at c42b0q7_2))
 (try (have c42b0q7_4 := c42b0; simp only [hl7_4] at c42b0q7_4))
 clear c42
 replace H := iD_ H
 obtain ⟨c43b0, H⟩ := H
 replace H := iN_ H
 obtain ⟨c44, H⟩ := H
 have c44b0 := decide_eq_true c44
 (try (have c44b0q7_1 := c44b0; simp only [hl7_1] at c44b0q7_1))
 (try (have c44b0q7_2 := c44b0; simp only [hl7_2] at c44b0q7_2))
 (try (have c44b0q7_4 := c44b0; simp only [hl7_4] at c44b0q7_4))
 clear c44
 replace H := iE_ H
 rcases H with ⟨c45b0, H⟩ | ⟨c45b0, H⟩
 {
 replace H := iD_ H
 obtain ⟨c46b0, H⟩ := H
 replace H := iN_ H
 obtain ⟨c47, H⟩ := H
 have c47b0 := decide_eq_true c47
 (try (have c47b0q7_1 := c47b0; simp only [hl7_1] at c47b0q7_1))
 (try (have c47b0q7_2 := c47b0; simp only [hl7_2] at c47b0q7_2))
 (try (have c47b0q7_4 := c47b0; simp only [hl7_4] at c47b0q7_4))
 clear c47
 obtain ⟨y331, hy331⟩ : ∃ y_ : List Int, y_ = (x7_4.set ((rd t325 x57_4) : Int).toNat (wrap64 ((rd x7_4 (rd x9_2 0)) + 1))) := ⟨_, rfl⟩
 replace H : (if x9_4.length < 17592186044416 then (impl_field.l2 k4 a1 a2 y331 (x9_4 ++ [rd t325 x57_4]) (rd x9_2 0) t325 (t325.length : Int) (wrap64 (x57_4 + 1)) a0_0 a0_1 l0_2) else (none)) = some r := by first | (rw [hy331]; exact H) | exact H
 have Ny331 := aM hy331
 clear hy331
 replace H := iN_ H
 obtain ⟨c49, H⟩ := H
 have LMc49 := aM c49
 clear c49
 obtain ⟨y332, hy332⟩ : ∃ y_ : List Int, y_ = (x9_4 ++ [rd t325 x57_4]) := ⟨_, rfl⟩
 replace H : (impl_field.l2 k4 a1 a2 y331 y332 (rd x9_2 0) t325 (t325.length : Int) (wrap64 (x57_4 + 1)) a0_0 a0_1 l0_2) = some r := by first | (rw [hy332]; exact H) | exact H
 have Ny332 := aM hy332
 clear hy332
 have H' := aM H
 clear H
 have p328 : (0 ≤ (x57_4 : Int)) = True := et_
 have q328 : (x57_4 < (t325.length : Int)) = True := et_
 obtain ⟨ad328, e328, hx328_0⟩ := Kd.at_int (Kd.R_reads' HO_55.out).2.2 x57_4 dt_ dt_
 cases e328
 have p329 : (0 ≤ ((rd t325 x57_4) : Int)) = True := et_
 have q329 : ((rd t325 x57_4) < (x7_4.length : Int)) = True := et_
 obtain ⟨ad329, e329, hx329_0⟩ := Kd.at_int (Kd.R_reads' HO_7.out).2.2 (rd t325 x57_4) dt_ dt_
 obtain rfl : (⟨go19, 0, none⟩ : Addr) = ad329 := (by injection e329)
 (first | simp only [add_plain] at hx329_0 | simp only [add_at] at hx329_0 | simp only [Addr.add, Nat.zero_add] at hx329_0 | skip)
 have p330 : (0 ≤ ((rd x9_2 0) : Int)) = True := et_
 have q330 : ((rd x9_2 0) < (x7_4.length : Int)) = True := et_
 obtain ⟨ad330, e330, hx330_0⟩ := Kd.at_int (Kd.R_reads' HO_7.out).2.2 (rd x9_2 0) dt_ dt_
 obtain rfl : (⟨go19, 0, none⟩ : Addr) = ad330 := (by injection e330)
 (first | simp only [add_plain] at hx330_0 | simp only [add_at] at hx330_0 | simp only [Addr.add, Nat.zero_add] at hx330_0 | skip)
 have p48 : (0 ≤ ((rd t325 x57_4) : Int)) = True := et_
 have q48 : (((rd t325 x57_4) : Int) < ((x7_4.length : Int) : Int)) = True := et_
 obtain ⟨hx48_0, hf48_0⟩ := Kd.R_celln 0 HO_7.out ((rd t325 x57_4) : Int) dt_ dt_
 have HP50 := Kd.R_putg HO_7.out ((rd t325 x57_4) : Int) (wrap64 ((rd x7_4 (rd x9_2 0)) + 1))
 go_wp2_with (first | ((with_reducible refine gate_store (t := 3) (p := 73) rfl ?_); refine store_event (t := 3) (p := 73) (v := ?vo_w51) (w1 := (wr.setCell ⟨go19, ((rd t325 x57_4) : Int).toNat, none⟩ (.int .i64 (wrap64 ((rd x7_4 (rd x9_2 0)) + 1))))) ?hg ?ho ?hn ?hr ?_; (case ho => rfl); (case hg => rfl); (case hn => rfl); (case hr => exact qz9); intro w51 hw; have hg : wr.grownBy w51 (some go19) := (by rw [hw]; exact HP50.2); have hp_ : Kd.R (Kd.int .i64) 3 w51 w.heap.size (fun k_ => some k_ ≠ (u9 : Value).ownBlock ∧ some k_ ≠ (.slice (some ad328) t325.length co39 : Value).ownBlock) (.slice (some ⟨go19, 0, none⟩) x7_4.length co10) y331 := (by rw [hw, Ny331.out]; exact HP50.1); clear HP50; replace HO_9 := aM (Kd.Q_after (v := (.slice (some ⟨go19, 0, none⟩) x7_4.length co10)) (v1 := (.slice (some ⟨go19, 0, none⟩) x7_4.length co10)) (ok := (fun k_ => some k_ ≠ (.slice (some ad328) t325.length co39 : Value).ownBlock)) (by (with_reducible repeat (first | apply Kd.Q_alloc | apply Kd.Q_drewN | apply Kd.Q_drew)); exact Kd.Q_mono HO_9.out (fun _ hk => ⟨hk.2, hk.1⟩)) hg (.inl rfl)); replace HO_55 := aM (Kd.R_after (v := (.slice (some ⟨go19, 0, none⟩) x7_4.length co10)) (v1 := (.slice (some ⟨go19, 0, none⟩) x7_4.length co10)) (ok := (fun k_ => some k_ ≠ (u9 : Value).ownBlock)) (by (with_reducible repeat (first | apply Kd.R_alloc | apply Kd.R_drewN | apply Kd.R_drew)); exact Kd.R_mono HO_55.out (fun _ hk => ⟨hk.2, hk.1⟩)) hg (.inl rfl)); replace BK311 := aM (blk_grown (bk_ BK311.out) hg (Kd.R_ne HO_7.out BK311.out (by decide))); replace HO_7 := aM (hp_); replace HB := aM ((by rw [hw]; exact below_set (HB.out) GB19.out : Below w.heap.size w w51)); clear hg hw hp_) | ((with_reducible refine gate_builtin (b := .append) (xs := #[.tmp 74, .tmp 76]) rfl ?_); at_builtin; refine Kd.Q_append (Kd.int .i64) (w0 := w) w.heap.size rfl (.tmp 74) (.tmp 76) 24 3 (.int .i64 0) 8 rfl Try.underlying24 info3 rfl (by decide) (by omega) u9 x9_4 (rd t325 x57_4) [.int .i64 (rd t325 x57_4)] (fun k_ => some k_ ≠ (.slice (some ⟨go19, 0, none⟩) x7_4.length co10 : Value).ownBlock ∧ some k_ ≠ (.slice (some ad328) t325.length co39 : Value).ownBlock) (fun _ => False) rfl rfl ?aP (fun _ hk => hk.elim) ?aF ?aO ?aB ?aS ?aL ?_; (case aP => exact rfl); (case aB => exact qz1); (case aF => exact (fun k_ hk => ⟨Kd.fresh' (Kd.R_lt (rr_ HO_7.out)) k_ hk, Kd.fresh' (Kd.R_lt (rr_ HO_55.out)) k_ hk⟩)); (case aO => exact (by (with_reducible repeat (first | apply Kd.Q_alloc | apply Kd.Q_drewN | apply Kd.Q_drew)); exact Kd.Q_mono HO_9.out (fun _ hk => ⟨hk.2, hk.1⟩))); (case aS => exact qz32); (case aL => have := LMc49.out; omega); intro v333 w52 ho hb hg hat; rw [← Ny332.out] at ho; replace HO_7 := aM (Kd.R_after (ok := (fun k_ => some k_ ≠ (.slice (some ad328) t325.length co39 : Value).ownBlock)) (by (with_reducible repeat (first | apply Kd.R_alloc | apply Kd.R_drewN | apply Kd.R_drew)); exact Kd.R_mono HO_7.out (fun _ hk => ⟨hk.2, hk.1⟩)) hg hat); replace HO_55 := aM (Kd.R_after (ok := (fun k_ => some k_ ≠ (.slice (some ⟨go19, 0, none⟩) x7_4.length co10 : Value).ownBlock)) (by (with_reducible repeat (first | apply Kd.R_alloc | apply Kd.R_drewN | apply Kd.R_drew)); exact Kd.R_mono HO_55.out (fun _ hk => ⟨hk.2, hk.1⟩)) hg hat); replace BK311 := aM (blk_grown (bk_ BK311.out) hg (Kd.Q_ne HO_9.out BK311.out (by decide))); replace HB := aM (hb); have HO334 := aM (ho); clear HO_9; clear ho hb hg hat))
 (try simp only [← hl7_4])
 go_roundg k4
 case measure => have := HK1.out; have := HK2.out; have := HJ26.out; have := HK4.out; omega
 case rel => exact ⟨(y331), (y332), (wrap64 (x57_4 + 1)), qz7, H', ⟨by have := HK1.out; have := HK2.out; have := HJ26.out; have := HK4.out; omega⟩, ⟨by (try simp only [hl7_1]); (try simp only [hl7_2]); (try simp only [hl7_4]); (with_reducible repeat (first | apply Kd.R_alloc | apply Kd.R_drewN | apply Kd.R_drew)); exact Kd.R_mono HO_7.out (fun _ hk => ⟨hk.2, hk.1⟩)⟩, ⟨by (try simp only [hl7_1]); (try simp only [hl7_2]); (try simp only [hl7_4]); (with_reducible repeat (first | apply Kd.Q_alloc | apply Kd.Q_drewN | apply Kd.Q_drew)); (first | exact HO334.out | exact Kd.R_mono HO334.out (fun _ h_ => h_.1) | exact Kd.R_mono HO334.out (fun _ h_ => h_.2))⟩, ⟨by (try simp only [hl7_1]); (try simp only [hl7_2]); (try simp only [hl7_4]); exact rm_ HO_55.out⟩, ⟨by (try simp only [hl7_1]); (try simp only [hl7_2]); (try simp only [hl7_4]); exact bk_ BK311.out⟩, ⟨qz1⟩⟩
 }
 {
 have H' := aM H
 clear H
 have p328 : (0 ≤ (x57_4 : Int)) = True := et_
 have q328 : (x57_4 < (t325.length : Int)) = True := et_
 obtain ⟨ad328, e328, hx328_0⟩ := Kd.at_int (Kd.R_reads' HO_55.out).2.2 x57_4 dt_ dt_
 cases e328
 have p329 : (0 ≤ ((rd t325 x57_4) : Int)) = True := et_
 have q329 : ((rd t325 x57_4) < (x7_4.length : Int)) = True := et_
 obtain ⟨ad329, e329, hx329_0⟩ := Kd.at_int (Kd.R_reads' HO_7.out).2.2 (rd t325 x57_4) dt_ dt_
 obtain rfl : (⟨go19, 0, none⟩ : Addr) = ad329 := (by injection e329)
 (first | simp only [add_plain] at hx329_0 | simp only [add_at] at hx329_0 | simp only [Addr.add, Nat.zero_add] at hx329_0 | skip)
 go_wp2
 (try simp only [← hl7_4])
 go_roundg k4
 case measure => have := HK1.out; have := HK2.out; have := HJ26.out; have := HK4.out; omega
 case rel => exact ⟨(x7_4), (x9_4), (wrap64 (x57_4 + 1)), qz7, H', ⟨by have := HK1.out; have := HK2.out; have := HJ26.out; have := HK4.out; omega⟩, ⟨by (try simp only [hl7_1]); (try simp only [hl7_2]); (try simp only [hl7_4]); exact rm_ HO_7.out⟩, ⟨by (try simp only [hl7_1]); (try simp only [hl7_2]); (try simp only [hl7_4]); (with_reducible repeat (first | apply Kd.Q_alloc | apply Kd.Q_drewN | apply Kd.Q_drew)); (first | exact HO_9.out | exact Kd.R_mono HO_9.out (fun _ h_ => h_.1) | exact Kd.R_mono HO_9.out (fun _ h_ => h_.2))⟩, ⟨by (try simp only [hl7_1]); (try simp only [hl7_2]); (try simp only [hl7_4]); exact rm_ HO_55.out⟩, ⟨by (try simp only [hl7_1]); (try simp only [hl7_2]); (try simp only [hl7_4]); exact bk_ BK311.out⟩, ⟨qz1⟩⟩
 }
 }
 {
 have c40b0 := decide_eq_false c40
 (try (have c40b0q7_1 := c40b0; simp only [hl7_1] at c40b0q7_1))
 (try (have c40b0q7_2 := c40b0; simp only [hl7_2] at c40b0q7_2))
 (try (have c40b0q7_4 := c40b0; simp only [hl7_4] at c40b0q7_4))
 clear c40
 have H' := aM H
 clear H
 go_wp2
 (try simp only [← hl7_2, ← hl7_4])
 go_roundg k4
 case measure => have := HK1.out; have := HK2.out; have := HJ26.out; have := HK4.out; omega
 case rel => exact ⟨(x7_4), (x9_4), H', ⟨by have := HK1.out; have := HK2.out; have := HJ26.out; have := HK4.out; omega⟩, ⟨by (try simp only [hl7_1]); (try simp only [hl7_2]); (try simp only [hl7_4]); (with_reducible repeat (first | apply Kd.R_alloc | apply Kd.R_drewN | apply Kd.R_drew)); exact Kd.R_mono HO_7.out (fun _ hk => hk.1)⟩, ⟨by (try simp only [hl7_1]); (try simp only [hl7_2]); (try simp only [hl7_4]); (with_reducible repeat (first | apply Kd.Q_alloc | apply Kd.Q_drewN | apply Kd.Q_drew)); exact Kd.Q_mono HO_9.out (fun _ hk => hk.1)⟩, ⟨by (try simp only [hl7_1]); (try simp only [hl7_2]); (try simp only [hl7_4]); exact bk_ BK311.out⟩, ⟨qz1⟩⟩
 }
 }
 }
 {
 have c24b0 := decide_eq_false c24
 (try (have c24b0q7_1 := c24b0; simp only [hl7_1] at c24b0q7_1))
 (try (have c24b0q7_2 := c24b0; simp only [hl7_2] at c24b0q7_2))
 have c24b1 : decide (0 < x9_2.length) = false := decide_eq_false (by omega)
 (try (have c24b1q7_1 := c24b1; simp only [hl7_1] at c24b1q7_1))
 (try (have c24b1q7_2 := c24b1; simp only [hl7_2] at c24b1q7_2))
 clear c24
 obtain rfl := Option.some.inj H
 obtain ⟨Ao53, co53, eo53, _⟩ := Kd.Q_slice HO_9.out
 subst eo53
 go_wp2
 go_ret
 exact ⟨_, qzw, by (with_reducible repeat (first | apply Kd.R_alloc | apply Kd.R_drewN | apply Kd.R_drew)); exact Kd.R_mono HO_7.out (fun _ hk => trivial), qz1⟩
 }
 }
end Go.Proofs.Ytankmdbbgepmbaa.PFnClashes
