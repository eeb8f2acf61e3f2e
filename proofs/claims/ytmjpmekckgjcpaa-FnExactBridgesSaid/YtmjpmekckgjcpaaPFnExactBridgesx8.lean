-- Made by a program of this session out of the translation. Lean checks it.
import Derived.Test.YtmjpmekckgjcpaaPFnExactBridgesx0
import Derived.Test.YtmjpmekckgjcpaaPFnExactBridgesx7
namespace Go.Proofs.Ytmjpmekckgjcpaa.PFnExactBridges
open Go.RowKit Go.Proofs.YtmjpmekckgjcpaaW.PrintWords Go.Proofs.YtmjpmekckgjcpaaW.PrintLast Go.Proofs.YtmjpmekckgjcpaaW.PrintMore
attribute [local go_sem] max2_int min2_int max_two min_two max_three min_three max_four min_four   -- for this text's walks alone
set_option linter.unusedVariables false
set_option linter.unusedSimpArgs false

/-! ### impl_without: function 100 -/
mutual
def impl_without.l0 : Nat → Int → Int → List Bool → List Int → Int → Int → List Int → Option (Bool)
  | 0, _, _, _, _, _, _, _ => none
  | k + 1, x1, x2, x7, x8, x265000, x265001, x265002 => if (x8.length : Int) > 0 then (if 0 < (x8.length : Int) then (if 1 ≤ (x8.length : Int) then ((impl_near.f k x265000 x265001 x265002 (rd x8 0) false).bind fun t277 => (impl_without.l1 k x1 x2 x7 (x8.drop (1 : Int).toNat) (rd x8 0) t277 (t277.length : Int) 0 x265000 x265001 x265002)) else (none)) else (none)) else (if 0 ≤ x2 then (if x2 < (x7.length : Int) then (some (rdOf false x7 x2)) else (none)) else (none))
def impl_without.l1 : Nat → Int → Int → List Bool → List Int → Int → List Int → Int → Int → Int → Int → List Int → Option (Bool)
  | 0, _, _, _, _, _, _, _, _, _, _, _ => none
  | k + 1, x1, x2, x7, x8, x9, x31, x32, x33, x265000, x265001, x265002 => if x33 < x32 then (if 0 ≤ x33 then (if x33 < (x31.length : Int) then (if 0 ≤ (rd x31 x33) then (if (rd x31 x33) < (x7.length : Int) then (if rdOf false x7 (rd x31 x33) = true then (impl_without.l1 k x1 x2 x7 x8 x9 x31 x32 (wrap64 (x33 + 1)) x265000 x265001 x265002) else (if x9 = x1 then (if (rd x31 x33) = x2 then (impl_without.l1 k x1 x2 x7 x8 x9 x31 x32 (wrap64 (x33 + 1)) x265000 x265001 x265002) else (if x9 = x2 then (if (rd x31 x33) = x1 then (impl_without.l1 k x1 x2 x7 x8 x9 x31 x32 (wrap64 (x33 + 1)) x265000 x265001 x265002) else (if x8.length < 17592186044416 then (impl_without.l1 k x1 x2 (x7.set ((rd x31 x33) : Int).toNat true) (x8 ++ [rd x31 x33]) x9 x31 x32 (wrap64 (x33 + 1)) x265000 x265001 x265002) else (none))) else (if x8.length < 17592186044416 then (impl_without.l1 k x1 x2 (x7.set ((rd x31 x33) : Int).toNat true) (x8 ++ [rd x31 x33]) x9 x31 x32 (wrap64 (x33 + 1)) x265000 x265001 x265002) else (none)))) else (if x9 = x2 then (if (rd x31 x33) = x1 then (impl_without.l1 k x1 x2 x7 x8 x9 x31 x32 (wrap64 (x33 + 1)) x265000 x265001 x265002) else (if x8.length < 17592186044416 then (impl_without.l1 k x1 x2 (x7.set ((rd x31 x33) : Int).toNat true) (x8 ++ [rd x31 x33]) x9 x31 x32 (wrap64 (x33 + 1)) x265000 x265001 x265002) else (none))) else (if x8.length < 17592186044416 then (impl_without.l1 k x1 x2 (x7.set ((rd x31 x33) : Int).toNat true) (x8 ++ [rd x31 x33]) x9 x31 x32 (wrap64 (x33 + 1)) x265000 x265001 x265002) else (none))))) else (none)) else (none)) else (none)) else (none)) else (impl_without.l0 k x1 x2 x7 x8 x265000 x265001 x265002)
end
def impl_without.f (k : Nat) (a0_0 : Int) (a0_1 : Int) (l0_2 : List Int) (a1 : Int) (a2 : Int) : Option (Bool) := if 0 ≤ (l0_2.length : Int) then (if ((l0_2.length : Int) : Int).toNat ≤ 281474976710656 then ((some (List.replicate ((l0_2.length : Int) : Int).toNat false : List Bool)).bind fun y265 => (if 0 ≤ a1 then (if a1 < (y265.length : Int) then (impl_without.l0 k a1 a2 (y265.set (a1 : Int).toNat true) (([a1] : List Int)) a0_0 a0_1 l0_2) else (none)) else (none))) else (none)) else (none)
theorem impl_without.mono_l : ∀ k, (∀ y0 y1 y2 y3 y4 y5 y6, LeO (impl_without.l0 k y0 y1 y2 y3 y4 y5 y6) (impl_without.l0 (k + 1) y0 y1 y2 y3 y4 y5 y6)) ∧ (∀ y0 y1 y2 y3 y4 y5 y6 y7 y8 y9 y10, LeO (impl_without.l1 k y0 y1 y2 y3 y4 y5 y6 y7 y8 y9 y10) (impl_without.l1 (k + 1) y0 y1 y2 y3 y4 y5 y6 y7 y8 y9 y10))
  | 0 => ⟨fun _ _ _ _ _ _ _ r h => by simp [impl_without.l0] at h, fun _ _ _ _ _ _ _ _ _ _ _ r h => by simp [impl_without.l1] at h⟩
  | k + 1 => by
    obtain ⟨ih0, ih1⟩ := impl_without.mono_l k
    refine ⟨?_, ?_⟩
    {
    intro y0 y1 y2 y3 y4 y5 y6
    unfold impl_without.l0
    repeat' first
    | (with_reducible exact ih0 _ _ _ _ _ _ _)
    | (with_reducible exact ih1 _ _ _ _ _ _ _ _ _ _ _)
    | (with_reducible exact impl_near.mono _ _ _ _ _ _)
    | (with_reducible exact LeO.refl _)
    | (with_reducible exact LeO.none _)
    | (with_reducible refine LeO.ite ?_ ?_)
    | (with_reducible refine LeO.bind ?_ (fun _ => ?_))
    | exact ih0 _ _ _ _ _ _ _
    | exact ih1 _ _ _ _ _ _ _ _ _ _ _
    | exact impl_near.mono _ _ _ _ _ _
    | exact LeO.none _
    | refine LeO.ite ?_ ?_
    | refine LeO.bind ?_ (fun _ => ?_)
    }
    {
    intro y0 y1 y2 y3 y4 y5 y6 y7 y8 y9 y10
    unfold impl_without.l1
    repeat' first
    | (with_reducible exact ih0 _ _ _ _ _ _ _)
    | (with_reducible exact ih1 _ _ _ _ _ _ _ _ _ _ _)
    | (with_reducible exact impl_near.mono _ _ _ _ _ _)
    | (with_reducible exact LeO.refl _)
    | (with_reducible exact LeO.none _)
    | (with_reducible refine LeO.ite ?_ ?_)
    | (with_reducible refine LeO.bind ?_ (fun _ => ?_))
    | exact ih0 _ _ _ _ _ _ _
    | exact ih1 _ _ _ _ _ _ _ _ _ _ _
    | exact impl_near.mono _ _ _ _ _ _
    | exact LeO.none _
    | refine LeO.ite ?_ ?_
    | refine LeO.bind ?_ (fun _ => ?_)
    }
theorem impl_without.mono : ∀ a0 a1 a2 a3 a4 k, LeO (impl_without.f k a0 a1 a2 a3 a4) (impl_without.f (k + 1) a0 a1 a2 a3 a4) := by
  intro a0 a1 a2 a3 a4 k
  obtain ⟨ih0, ih1⟩ := impl_without.mono_l k
  unfold impl_without.f
  repeat' first
      | (with_reducible exact ih0 _ _ _ _ _ _ _)
      | (with_reducible exact ih1 _ _ _ _ _ _ _ _ _ _ _)
      | (with_reducible exact impl_near.mono _ _ _ _ _ _)
      | (with_reducible exact LeO.refl _)
      | (with_reducible exact LeO.none _)
      | (with_reducible refine LeO.ite ?_ ?_)
      | (with_reducible refine LeO.bind ?_ (fun _ => ?_))
      | exact ih0 _ _ _ _ _ _ _
      | exact ih1 _ _ _ _ _ _ _ _ _ _ _
      | exact impl_near.mono _ _ _ _ _ _
      | exact LeO.none _
      | refine LeO.ite ?_ ?_
      | refine LeO.bind ?_ (fun _ => ?_)
set_option maxHeartbeats 8000000 in
set_option maxRecDepth 100000 in
theorem impl_without.calls (k : Nat) (a0_0 : Int) (a0_1 : Int) (A0_2 : Option Addr) (c0_2 : Nat) (l0_2 : List Int) (a1 : Int) (a2 : Int) (r : Bool) (w : World) (hr0_2 : Kd.C (Kd.int .i64) w A0_2 l0_2.length l0_2) (hc0_2 : l0_2.length ≤ c0_2) (h : impl_without.f k a0_0 a0_1 l0_2 a1 a2 = some r) :
    Calls Try.prog 100 #[.agg #[.int .i64 a0_0, .int .i64 a0_1, .slice A0_2 l0_2.length c0_2], .int .i64 a1, .int .i64 a2] w fun e w' => e = .returned (.bool r) ∧ Below w.heap.size w w' := by
  have hu27 := Try.underlying27
  have HR0_2 := Aside0.mk hr0_2
  have HC0_2 := Aside0.mk hc0_2
  clear hr0_2 hc0_2
  have HB := Aside0.mk (Below.refl w.heap.size w)
  have H : (if 0 ≤ (l0_2.length : Int) then (if ((l0_2.length : Int) : Int).toNat ≤ 281474976710656 then ((some (List.replicate ((l0_2.length : Int) : Int).toNat false : List Bool)).bind fun y265 => (if 0 ≤ a1 then (if a1 < (y265.length : Int) then (impl_without.l0 k a1 a2 (y265.set (a1 : Int).toNat true) (([a1] : List Int)) a0_0 a0_1 l0_2) else (none)) else (none))) else (none)) else (none)) = some r := h
  clear h
  by_cases c4 : 0 ≤ (l0_2.length : Int)
  {
  rw [if_pos c4] at H
  have c4b0 := eq_true c4
  have c4b1 : decide (0 ≤ (l0_2.length : Int)) = true := decide_eq_true c4
  clear c4
  by_cases c5 : ((l0_2.length : Int) : Int).toNat ≤ 281474976710656
  {
  rw [if_pos c5] at H
  have c5b0 := eq_true c5
  have c5b1 : decide (((l0_2.length : Int) : Int).toNat ≤ 281474976710656) = true := decide_eq_true c5
  clear c5
  obtain ⟨y265, hy265⟩ : ∃ y_ : List Bool, y_ = (List.replicate ((l0_2.length : Int) : Int).toNat false) := ⟨_, rfl⟩
  replace H : (if 0 ≤ a1 then (if a1 < (y265.length : Int) then (impl_without.l0 k a1 a2 (y265.set (a1 : Int).toNat true) (([a1] : List Int)) a0_0 a0_1 l0_2) else (none)) else (none)) = some r := by first | (rw [hy265]; with_reducible exact H) | (have H2_ := (Option.bind_some _ _).symm.trans H; rw [hy265]; with_reducible exact H2_) | (have H2_ := (Option.bind_some _ _).symm.trans H; with_reducible exact H2_) | with_reducible exact H | (rw [hy265]; exact H) | exact H
  have Ny265 := Aside0.mk hy265
  clear hy265
  by_cases c6 : 0 ≤ a1
  {
  rw [if_pos c6] at H
  have c6b0 : decide (0 ≤ a1) = true := decide_eq_true c6
  clear c6
  by_cases c7 : a1 < (y265.length : Int)
  {
  rw [if_pos c7] at H
  have c7b0 : decide (a1 < (y265.length : Int)) = true := decide_eq_true c7
  clear c7
  obtain ⟨y268, hy268⟩ : ∃ y_ : List Bool, y_ = (y265.set (a1 : Int).toNat true) := ⟨_, rfl⟩
  replace H : (impl_without.l0 k a1 a2 y268 (([a1] : List Int)) a0_0 a0_1 l0_2) = some r := by first | (rw [hy268]; with_reducible exact H) | (have H2_ := (Option.bind_some _ _).symm.trans H; rw [hy268]; with_reducible exact H2_) | (have H2_ := (Option.bind_some _ _).symm.trans H; with_reducible exact H2_) | with_reducible exact H | (rw [hy268]; exact H) | exact H
  have Ny268 := Aside0.mk hy268
  clear hy268
  obtain ⟨y269, hy269⟩ : ∃ y_ : List Int, y_ = (([a1] : List Int)) := ⟨_, rfl⟩
  replace H : (impl_without.l0 k a1 a2 y268 y269 a0_0 a0_1 l0_2) = some r := by first | (rw [hy269]; with_reducible exact H) | (have H2_ := (Option.bind_some _ _).symm.trans H; rw [hy269]; with_reducible exact H2_) | (have H2_ := (Option.bind_some _ _).symm.trans H; with_reducible exact H2_) | with_reducible exact H | (rw [hy269]; exact H) | exact H
  have Ny269 := Aside0.mk hy269
  clear hy269
  have H' := Aside0.mk H
  clear H
  go_enter Try.func100, Try.ntmps100
  go_wp2_with (first | ((with_reducible refine gate_dst (N := 3) rfl ?_); refine box_event ?hg (N := 3) ?hd (cs := #[.int .i64 a0_0, .int .i64 a0_1, .slice A0_2 l0_2.length c0_2]) (t := 27) ?hr ?_; (case hd => rfl); (case hg => rfl); (case hr => first | (go_simp; done) | (go_simp; rfl)); intro gb264 hg w9 hbox hb; have n0_ := Aside0.mk (below_step qz2 hb); have n1_ := Aside0.mk (hbox); have n2_ := Aside0.mk ((by rw [hg]; exact (below_size qz2) : w.heap.size ≤ gb264)); have n3_ := Aside0.mk ((by rw [hg]; exact (below_size qz2) : w.heap.size ≤ gb264)); clear HB; have HB := n0_; have BK264 := n1_; have GW264 := n2_; have GE264 := n3_; clear n0_ n1_ n2_ n3_; clear hb hbox hg; have hcz10_0 : w9.cell? ⟨gb264, 0, none⟩ = some (.int .i64 a0_0) := (blk_cell BK264.out 0).trans rfl; have hcz10_1 : w9.cell? ⟨gb264, 1, none⟩ = some (.int .i64 a0_1) := (blk_cell BK264.out 1).trans rfl; have hcz10_2 : w9.cell? ⟨gb264, 2, none⟩ = some (.slice A0_2 l0_2.length c0_2) := (blk_cell BK264.out 2).trans rfl; have hfz10_0 := blk_frozen BK264.out 0; have hfz10_1 := blk_frozen BK264.out 1; have hfz10_2 := blk_frozen BK264.out 2) | ((with_reducible refine gate_dst (N := 15) rfl ?_); refine Kd.R_make Kd.bool _ 4 rfl (N := 15) rfl 64 _ _ rfl (l0_2.length : Int) rfl rfl Try.underlying64 (.bool false) 1 info4 rfl (by decide) (by omega) false (ok := fun _ => True) (okp := fun _ => True) rfl (fun _ hk => hk) trivial (of_decide_eq_true qz1) (Nat.le_trans (Nat.mul_le_mul_right _ (of_decide_eq_true qz1 : (l0_2.length : Int).toNat ≤ 281474976710656)) (by omega)) (Below.refl _ _) (Nat.le_refl _) ?_; intro v266 w11 ho12 hb hg_ hnew_; clear hg_ hnew_; (first | rw [← Ny265.out] at ho12 | (simp only [Int.reduceToNat] at ho12; rw [← Ny265.out] at ho12)); have n0_ := Aside0.mk (Kd.R_lower ho12 (below_size qz10)); have n1_ := Aside0.mk (blk_below (g := gb264) (o := .cells #[.int .i64 a0_0, .int .i64 a0_1, .slice A0_2 l0_2.length c0_2] 27 (0, 0)) (by (with_reducible repeat (first | refine blk_drewN ?_ _ | refine blk_drew ?_ | refine blk_alloc ?_ _)); exact BK264.out) hb); have n2_ := Aside0.mk (below_step qz10 hb); clear BK264; clear HB; have HO267 := n0_; have BK264 := n1_; have HB := n2_; clear n0_ n1_ n2_; clear hb ho12; have p8 : 0 ≤ (a1 : Int) := of_decide_eq_true qz1; have q8 : (a1 : Int) < ((y265.length : Int) : Int) := of_decide_eq_true qz1; obtain ⟨go8, co8, eo8, gb8, gl8, cl8, HG8⟩ := Kd.R_form HO267.out (by omega); (first | cases eo8 | (injection eo8 with ea_ en_ ec_; (first | subst ea_ | (injection ea_ with ea_; subst ea_)); subst ec_; clear en_)); have GB8 := Aside0.mk gb8; have GG8 := Aside0.mk HG8; clear gb8 gl8 HG8; obtain ⟨hx8_0, hf8_0⟩ := Kd.R_celln false HO267.out (a1 : Int) p8 q8; replace p8 := eq_true p8; replace q8 := eq_true q8; obtain ⟨hy13_, hz13_⟩ := Kd.R_celln false HO267.out (a1 : Int) (of_decide_eq_true qz1) (of_decide_eq_true qz1); have HP13 := Kd.R_putg HO267.out (a1 : Int) true) | ((with_reducible refine gate_store (t := 4) (p := 18) rfl ?_); refine store_event (t := 4) (p := 18) (v := ?vo_w14) (w1 := (w11.setCell ⟨go8, (a1 : Int).toNat, none⟩ (.bool true))) ?hg ?ho ?hn ?hr ?_; (case ho => rfl); (case hg => rfl); (case hn => rfl); (case hr => first | (go_simp; done) | (go_simp; rfl)); intro w14 hw; have hg : w11.grownBy w14 (some go8) := (by rw [hw]; exact HP13.2); have hp_ : Kd.R Kd.bool 4 w14 w.heap.size (fun _ => True) (.slice (some ⟨go8, 0, none⟩) y265.length co8) y268 := (by rw [hw, Ny268.out]; exact HP13.1); clear HP13; have n0_ := Aside0.mk (blk_grown (g := gb264) (o := .cells #[.int .i64 a0_0, .int .i64 a0_1, .slice A0_2 l0_2.length c0_2] 27 (0, 0)) (by (with_reducible repeat (first | refine blk_drewN ?_ _ | refine blk_drew ?_ | refine blk_alloc ?_ _)); exact BK264.out) hg (Kd.R_ne HO267.out BK264.out (by decide))); have n1_ := Aside0.mk (hp_); have n2_ := Aside0.mk ((by rw [hw]; exact below_set (HB.out) GB8.out : Below w.heap.size w w14)); clear BK264; clear HO267; clear HB; have BK264 := n0_; have HO267 := n1_; have HB := n2_; clear n0_ n1_ n2_; clear hg hw hp_) | ((with_reducible refine gate_dst (N := 20) rfl ?_); refine Kd.R_lit (Kd.int .i64) _ 3 ?hg (N := 20) ?hd (xs := ([a1] : List Int)) (inner := [.int .i64 a1]) (ok := fun _ => True) (okp := fun _ => True) ?hr ?hp (fun _ hk => hk) trivial (Below.refl _ _) (Nat.le_refl _) (by simp) ?_; (case hd => rfl); (case hg => rfl); (case hr => first | (go_simp; done) | (go_simp; rfl)); (case hp => exact (Reps.one (show Kd.M (Kd.int .i64) _ _ _ a1 [.int .i64 a1] from rfl) (Reps.none _ _))); intro v270 w15 ho16 hb hg_ hnew_; clear hg_ hnew_; (first | rw [← Ny269.out] at ho16 | (simp only [Int.reduceToNat] at ho16; rw [← Ny269.out] at ho16)); have n0_ := Aside0.mk (Kd.R_below (by (with_reducible repeat (first | apply Kd.R_alloc | apply Kd.R_drewN | apply Kd.R_drew)); exact HO267.out) hb); have n1_ := Aside0.mk (Kd.R_lower ho16 (below_size qz10)); have n2_ := Aside0.mk (blk_below (g := gb264) (o := .cells #[.int .i64 a0_0, .int .i64 a0_1, .slice A0_2 l0_2.length c0_2] 27 (0, 0)) (by (with_reducible repeat (first | refine blk_drewN ?_ _ | refine blk_drew ?_ | refine blk_alloc ?_ _)); exact BK264.out) hb); have n3_ := Aside0.mk (below_step qz10 hb); clear HO267; clear BK264; clear HB; have HO267 := n0_; have HO271 := n1_; have BK264 := n2_; have HB := n3_; clear n0_ n1_ n2_ n3_; clear hb ho16))
  go_loopg [8] k (fun kq v8 w' => ∃ (x7_1 : List Bool) (x8_1 : List Int), Aside0 (impl_without.l0 kq a1 a2 x7_1 x8_1 a0_0 a0_1 l0_2 = some r) ∧ Aside0 (kq ≤ k) ∧ Aside0 (Kd.R Kd.bool 4 w' w.heap.size (fun _ => True) (.slice (some ⟨go8, 0, none⟩) y265.length co8) x7_1) ∧ Aside0 (Kd.Q (Kd.int .i64) 3 w' w.heap.size (fun _ => True) v8 x8_1) ∧ Aside0 (w'.heap[gb264]? = some (.cells #[.int .i64 a0_0, .int .i64 a0_1, (.slice A0_2 l0_2.length c0_2)] 27 (0, 0))) ∧ Aside0 (Below w.heap.size w w'))
  case atStart => exact ⟨(y268), (y269), H', ⟨Nat.le_refl _⟩, ⟨by (with_reducible repeat (first | apply Kd.R_alloc | apply Kd.R_drewN | apply Kd.R_drew)); exact HO267.out⟩, ⟨Kd.Q_of_R (by (with_reducible repeat (first | apply Kd.R_alloc | apply Kd.R_drewN | apply Kd.R_drew)); exact HO271.out)⟩, ⟨by (with_reducible repeat (first | refine blk_drewN ?_ _ | refine blk_drew ?_ | refine blk_alloc ?_ _)); exact BK264.out⟩, ⟨by repeat (first | (with_reducible first | exact HB.out | apply below_alloc | apply pw_below_drewN | apply below_drew1 | refine below_set ?_ GE264.out) | exact HB.out)⟩⟩
  case round =>
    clear H'
    try clear c1
    try clear p2
    try clear c4
    try clear c4b0
    try clear c4b1
    try clear c5
    try clear c5b0
    try clear c5b1
    try clear c6
    try clear c6b0
    try clear c7
    try clear c7b0
    try clear p8
    try clear q8
    try clear hx8
    try clear hf8
    try clear c10
    try clear hcz10_0
    try clear hcz10_1
    try clear hcz10_2
    try clear hfz10_0
    try clear hfz10_1
    try clear hfz10_2
    try clear hx8_0
    try clear p8
    try clear q8
    obtain ⟨x7_1, x8_1, HA, HK1, HO_7, HO_8, BK264, HB⟩ := hrel
    have hl7_1 := (Kd.R_reads' HO_7.out).1
    rw [hl7_1] at HO_7
    (try simp only [hl7_1])
    (try simp only [hl7_1] at BK264)
    (try simp only [hl7_1] at HO_8)
    cases gk with
    | zero => exact absurd HA.out (by simp [impl_without.l0])
    | succ k1 =>
      have H := HA.out
      clear HA
      simp only [impl_without.l0] at H
      by_cases c17 : (x8_1.length : Int) > 0
      {
      rw [if_pos c17] at H
      have c17b0 : decide (0 < (x8_1.length : Int)) = true := decide_eq_true c17
      (try (have c17b0q7_1 := c17b0; simp only [hl7_1] at c17b0q7_1))
      have c17b1 : decide (0 < x8_1.length) = true := decide_eq_true (by omega)
      (try (have c17b1q7_1 := c17b1; simp only [hl7_1] at c17b1q7_1))
      clear c17
      by_cases c18 : 0 < (x8_1.length : Int)
      {
      rw [if_pos c18] at H
      have c18b0 : decide (0 < (x8_1.length : Int)) = true := decide_eq_true c18
      (try (have c18b0q7_1 := c18b0; simp only [hl7_1] at c18b0q7_1))
      have c18b1 : decide (0 < x8_1.length) = true := decide_eq_true (by omega)
      (try (have c18b1q7_1 := c18b1; simp only [hl7_1] at c18b1q7_1))
      clear c18
      by_cases c19 : 1 ≤ (x8_1.length : Int)
      {
      rw [if_pos c19] at H
      have c19b0 := eq_true c19
      have c19b1 : decide (1 ≤ (x8_1.length : Int)) = true := decide_eq_true c19
      (try (have c19b1q7_1 := c19b1; simp only [hl7_1] at c19b1q7_1))
      clear c19
      obtain ⟨y274, hy274⟩ : ∃ y_ : List Int, y_ = (x8_1.drop (1 : Int).toNat) := ⟨_, rfl⟩
      replace H : ((impl_near.f k1 a0_0 a0_1 l0_2 (rd x8_1 0) false).bind fun t277 => (impl_without.l1 k1 a1 a2 x7_1 y274 (rd x8_1 0) t277 (t277.length : Int) 0 a0_0 a0_1 l0_2)) = some r := by first | (rw [hy274]; with_reducible exact H) | (have H2_ := (Option.bind_some _ _).symm.trans H; rw [hy274]; with_reducible exact H2_) | (have H2_ := (Option.bind_some _ _).symm.trans H; with_reducible exact H2_) | with_reducible exact H | (rw [hy274]; exact H) | exact H
      have Ny274 := Aside0.mk hy274
      clear hy274
      replace H := Option.bind_eq_some_iff.mp H
      obtain ⟨t277, A200, H⟩ := H
      replace H : (impl_without.l1 k1 a1 a2 x7_1 y274 (rd x8_1 0) t277 (t277.length : Int) 0 a0_0 a0_1 l0_2) = some r := H
      have A20 := Aside0.mk A200
      clear A200
      have H' := Aside0.mk H
      clear H
      obtain ⟨Ao21, co21, eo21, _⟩ := Kd.Q_slice HO_8.out
      subst eo21
      have p273 : 0 ≤ (0 : Int) := (by omega)
      have q273 : 0 < (x8_1.length : Int) := of_decide_eq_true qz1
      obtain ⟨ad273, e273, hx273_0⟩ := Kd.at_int (Kd.Q_reads' HO_8.out).2.2 0 p273 q273
      cases e273
      have qi273 : (0 < x8_1.length) = True := eq_true (by omega)
      (try rw [show ((0 : Int)).toNat = 0 from rfl] at hx273_0)
      (try rw [Addr.add_zero'] at hx273_0)
      replace p273 := eq_true p273
      replace q273 := eq_true q273
      have q22 : (1 : Int) ≤ ((x8_1.length : Int) : Int) := of_decide_eq_true qz1
      obtain ⟨i022, hi022, _, hsz22, _⟩ := info_parts info3
      have hcut22 := cut_from (P := Try.prog) 22 3 .i64 Try.underlying22 hi022 1 hsz22 (some ad273) x8_1.length co21 1 (by omega) q22
      have hr22 := Kd.Q_drop (k := (1 : Int).toNat) HO_8.out (by omega)
      obtain ⟨A22, hA22⟩ : ∃ A1, A1 = (if co21 = (1 : Int).toNat then (some ad273) else ((some ad273) : Option Addr).map (·.add ((1 : Int).toNat * 1))) := ⟨_, rfl⟩
      obtain ⟨c22, hc22⟩ : ∃ c1, c1 = co21 - (1 : Int).toNat := ⟨_, rfl⟩
      have hy22 : y274.length = x8_1.length - (1 : Int).toNat := (by rw [Ny274.out, List.length_drop])
      rw [← Ny274.out] at hr22
      rw [← hy22, ← hA22, ← hc22] at hcut22
      replace hr22 : Kd.Q (Kd.int .i64) 3 wr w.heap.size (fun _ => True) (.slice A22 y274.length c22) y274 := (by rw [hA22, hc22, hy22]; exact hr22)
      have HE22 : Aside0 ((Value.slice A22 y274.length c22).ownBlock = (.slice (some ad273) x8_1.length co21 : Value).ownBlock) := ⟨by rw [hA22]; split <;> (cases ((some ad273) : Option Addr) <;> rfl)⟩
      clear hy22 hi022 hsz22 HO_8 hA22 hc22
      have HO276 := Aside0.mk hr22
      clear hr22
      replace q22 := eq_true q22
      have hcz23_0 : wr.cell? ⟨gb264, 0, none⟩ = some (.int .i64 a0_0) := (blk_cell BK264.out 0).trans rfl
      have hcz23_1 : wr.cell? ⟨gb264, 1, none⟩ = some (.int .i64 a0_1) := (blk_cell BK264.out 1).trans rfl
      have hcz23_2 : wr.cell? ⟨gb264, 2, none⟩ = some (.slice A0_2 l0_2.length c0_2) := (blk_cell BK264.out 2).trans rfl
      have hfz23_0 := blk_frozen BK264.out 0
      have hfz23_1 := blk_frozen BK264.out 1
      have hfz23_2 := blk_frozen BK264.out 2
      go_wp2_with (first | ((with_reducible refine gate_callee (f := 80) rfl ?_); refine goesL_ (some 31) rfl rfl Try.func80 (by kernel_rfl) rfl #[.agg #[.int .i64 a0_0, .int .i64 a0_1, .slice A0_2 l0_2.length c0_2], .int .i64 (rd x8_1 0), .bool false] rfl qz3 ?_; (with_reducible refine (impl_near.calls k1 a0_0 a0_1 _ _ l0_2 (rd x8_1 0) false t277 _ ?side1 ?side2 A20.out).mono ?_); (case side1 => repeat (first | exact (Kd.C_below HR0_2.out HB.out) | (with_reducible refine Kd.C_alloc ?_ _) | (with_reducible refine Kd.C_drewN ?_ _) | (with_reducible refine Kd.C_drew ?_))); (case side2 => exact HC0_2.out); rintro e w24 ⟨v278, rfl, ho0, hb⟩; refine ⟨_, rfl, ?_⟩; have n0_ := Aside0.mk (Kd.R_below qz17 hb); have n1_ := Aside0.mk (Kd.Q_elder' (by (with_reducible repeat (first | apply Kd.Q_alloc | apply Kd.Q_drewN | apply Kd.Q_drew)); exact HO276.out) (Kd.R_base ho0) hb); have n2_ := Aside0.mk (Kd.R_lower (Kd.R_new' ho0 (Kd.Q_lt (by (with_reducible repeat (first | apply Kd.Q_alloc | apply Kd.Q_drewN | apply Kd.Q_drew)); exact HO276.out))) (below_size qz10)); have n3_ := Aside0.mk (blk_below (g := gb264) (o := .cells #[.int .i64 a0_0, .int .i64 a0_1, .slice A0_2 l0_2.length c0_2] 27 (0, 0)) (by (with_reducible repeat (first | refine blk_drewN ?_ _ | refine blk_drew ?_ | refine blk_alloc ?_ _)); exact BK264.out) hb); have n4_ := Aside0.mk (below_step qz10 hb); clear HO_7; clear HO276; clear BK264; clear HB; have HO_7 := n0_; have HO276 := n1_; have HO279 := n2_; have BK264 := n3_; have HB := n4_; clear n0_ n1_ n2_ n3_ n4_; (try clear hb); (try clear hb2); (try clear hk); (try clear hi); (try clear ho0); obtain ⟨Ao25, co25, eo25⟩ := Kd.R_slice HO279.out; subst eo25))
      go_loopg [8, 33] k1 (fun kq v8 v33 w' => ∃ (x7_2 : List Bool) (x8_2 : List Int) (x33_2 : Int), v33 = .int .i64 x33_2 ∧ Aside0 (impl_without.l1 kq a1 a2 x7_2 x8_2 (rd x8_1 0) t277 (t277.length : Int) x33_2 a0_0 a0_1 l0_2 = some r) ∧ Aside0 (kq ≤ k1) ∧ Aside0 (Kd.R Kd.bool 4 w' w.heap.size (fun _ => True) (.slice (some ⟨go8, 0, none⟩) x7_1.length co8) x7_2) ∧ Aside0 (Kd.Q (Kd.int .i64) 3 w' w.heap.size (fun k_ => some k_ ≠ ((.slice Ao25 t277.length co25) : Value).ownBlock) v8 x8_2) ∧ Aside0 (Kd.R (Kd.int .i64) 3 w' w.heap.size (fun k_ => some k_ ≠ (v8 : Value).ownBlock) (.slice Ao25 t277.length co25) t277) ∧ Aside0 (w'.heap[gb264]? = some (.cells #[.int .i64 a0_0, .int .i64 a0_1, (.slice A0_2 l0_2.length c0_2)] 27 (0, 0))) ∧ Aside0 (Below w.heap.size w w'))
      case atStart => exact ⟨(x7_1), (y274), (0), qz6, H', ⟨Nat.le_refl _⟩, ⟨by (try simp only [hl7_1]); (with_reducible repeat (first | apply Kd.R_alloc | apply Kd.R_drewN | apply Kd.R_drew)); exact HO_7.out⟩, ⟨by (try simp only [hl7_1]); (with_reducible repeat (first | apply Kd.Q_alloc | apply Kd.Q_drewN | apply Kd.Q_drew)); exact Kd.Q_mono HO276.out (fun _ hk => hk.2)⟩, ⟨by (try simp only [hl7_1]); (with_reducible repeat (first | apply Kd.R_alloc | apply Kd.R_drewN | apply Kd.R_drew)); exact Kd.R_mono HO279.out (fun _ hk => hk.2)⟩, ⟨by (try simp only [hl7_1]); (with_reducible repeat (first | refine blk_drewN ?_ _ | refine blk_drew ?_ | refine blk_alloc ?_ _)); exact BK264.out⟩, ⟨by repeat (first | (with_reducible first | exact HB.out | apply below_alloc | apply pw_below_drewN | apply below_drew1 | refine below_set ?_ GE264.out) | exact HB.out)⟩⟩
      case round =>
        clear H'
        try clear c1
        try clear c2
        try clear p2
        try clear q2
        try clear hx2
        try clear qi2
        try clear c4
        try clear c4b0
        try clear c4b1
        try clear c5
        try clear c5b0
        try clear c5b1
        try clear c6
        try clear c6b0
        try clear c7
        try clear c7b0
        try clear c8
        try clear p8
        try clear q8
        try clear hx8
        try clear hf8
        try clear c10
        try clear c17
        try clear c17b0
        try clear c17b1
        try clear c18
        try clear c18b0
        try clear c18b1
        try clear c19
        try clear c19b0
        try clear c19b1
        try clear c22
        try clear q22
        try clear hcz10_0
        try clear hcz10_1
        try clear hcz10_2
        try clear hcz23_0
        try clear hcz23_1
        try clear hcz23_2
        try clear hfz10_0
        try clear hfz10_1
        try clear hfz10_2
        try clear hfz23_0
        try clear hfz23_1
        try clear hfz23_2
        try clear hx273_0
        try clear hx8_0
        try clear p2
        try clear p273
        try clear p8
        try clear q22
        try clear q273
        try clear q8
        obtain ⟨x7_2, x8_2, x33_2, rfl, HA, HK2, HO_7, HO_8, HO_31, BK264, HB⟩ := hrel
        have hl7_2 := (Kd.R_reads' HO_7.out).1
        rw [hl7_2] at HO_7
        (try simp only [hl7_2])
        (try simp only [hl7_2] at BK264)
        (try simp only [hl7_2] at HO_8)
        (try simp only [hl7_2] at HO_31)
        cases gk with
        | zero => exact absurd HA.out (by simp [impl_without.l1])
        | succ k2 =>
          have H := HA.out
          clear HA
          simp only [impl_without.l1] at H
          by_cases c26 : x33_2 < (t277.length : Int)
          {
          rw [if_pos c26] at H
          have c26b0 : decide (x33_2 < (t277.length : Int)) = true := decide_eq_true c26
          (try (have c26b0q7_1 := c26b0; simp only [hl7_1] at c26b0q7_1))
          (try (have c26b0q7_2 := c26b0; simp only [hl7_2] at c26b0q7_2))
          clear c26
          by_cases c27 : 0 ≤ x33_2
          {
          rw [if_pos c27] at H
          have c27b0 : decide (0 ≤ x33_2) = true := decide_eq_true c27
          clear c27
          by_cases c28 : x33_2 < (t277.length : Int)
          {
          rw [if_pos c28] at H
          have c28b0 : decide (x33_2 < (t277.length : Int)) = true := decide_eq_true c28
          (try (have c28b0q7_1 := c28b0; simp only [hl7_1] at c28b0q7_1))
          (try (have c28b0q7_2 := c28b0; simp only [hl7_2] at c28b0q7_2))
          clear c28
          by_cases c29 : 0 ≤ (rd t277 x33_2)
          {
          rw [if_pos c29] at H
          have c29b0 : decide (0 ≤ (rd t277 x33_2)) = true := decide_eq_true c29
          clear c29
          by_cases c30 : (rd t277 x33_2) < (x7_2.length : Int)
          {
          rw [if_pos c30] at H
          have c30b0 : decide ((rd t277 x33_2) < (x7_2.length : Int)) = true := decide_eq_true c30
          (try (have c30b0q7_1 := c30b0; simp only [hl7_1] at c30b0q7_1))
          (try (have c30b0q7_2 := c30b0; simp only [hl7_2] at c30b0q7_2))
          clear c30
          obtain ⟨bq31, hbq31⟩ : ∃ b_ : Bool, b_ = (rdOf false x7_2 (rd t277 x33_2)) := ⟨_, rfl⟩
          replace H : (if bq31 = true then (impl_without.l1 k2 a1 a2 x7_2 x8_2 (rd x8_1 0) t277 (t277.length : Int) (wrap64 (x33_2 + 1)) a0_0 a0_1 l0_2) else (if (rd x8_1 0) = a1 then (if (rd t277 x33_2) = a2 then (impl_without.l1 k2 a1 a2 x7_2 x8_2 (rd x8_1 0) t277 (t277.length : Int) (wrap64 (x33_2 + 1)) a0_0 a0_1 l0_2) else (if (rd x8_1 0) = a2 then (if (rd t277 x33_2) = a1 then (impl_without.l1 k2 a1 a2 x7_2 x8_2 (rd x8_1 0) t277 (t277.length : Int) (wrap64 (x33_2 + 1)) a0_0 a0_1 l0_2) else (if x8_2.length < 17592186044416 then (impl_without.l1 k2 a1 a2 (x7_2.set ((rd t277 x33_2) : Int).toNat true) (x8_2 ++ [rd t277 x33_2]) (rd x8_1 0) t277 (t277.length : Int) (wrap64 (x33_2 + 1)) a0_0 a0_1 l0_2) else (none))) else (if x8_2.length < 17592186044416 then (impl_without.l1 k2 a1 a2 (x7_2.set ((rd t277 x33_2) : Int).toNat true) (x8_2 ++ [rd t277 x33_2]) (rd x8_1 0) t277 (t277.length : Int) (wrap64 (x33_2 + 1)) a0_0 a0_1 l0_2) else (none)))) else (if (rd x8_1 0) = a2 then (if (rd t277 x33_2) = a1 then (impl_without.l1 k2 a1 a2 x7_2 x8_2 (rd x8_1 0) t277 (t277.length : Int) (wrap64 (x33_2 + 1)) a0_0 a0_1 l0_2) else (if x8_2.length < 17592186044416 then (impl_without.l1 k2 a1 a2 (x7_2.set ((rd t277 x33_2) : Int).toNat true) (x8_2 ++ [rd t277 x33_2]) (rd x8_1 0) t277 (t277.length : Int) (wrap64 (x33_2 + 1)) a0_0 a0_1 l0_2) else (none))) else (if x8_2.length < 17592186044416 then (impl_without.l1 k2 a1 a2 (x7_2.set ((rd t277 x33_2) : Int).toNat true) (x8_2 ++ [rd t277 x33_2]) (rd x8_1 0) t277 (t277.length : Int) (wrap64 (x33_2 + 1)) a0_0 a0_1 l0_2) else (none))))) = some r := by rw [← hbq31] at H; exact H
          have Nbq31 := Aside0.mk hbq31
          clear hbq31
          by_cases c32 : bq31 = true
          {
          subst c32
          have H1 : (impl_without.l1 k2 a1 a2 x7_2 x8_2 (rd x8_1 0) t277 (t277.length : Int) (wrap64 (x33_2 + 1)) a0_0 a0_1 l0_2) = some r := by rw [if_pos rfl] at H; exact H
          clear H
          have H := H1
          clear H1
          have H' := Aside0.mk H
          clear H
          have p280 : 0 ≤ (x33_2 : Int) := of_decide_eq_true qz1
          have q280 : x33_2 < (t277.length : Int) := of_decide_eq_true qz1
          obtain ⟨ad280, e280, hx280_0⟩ := Kd.at_int (Kd.R_reads' HO_31.out).2.2 x33_2 p280 q280
          cases e280
          replace p280 := eq_true p280
          replace q280 := eq_true q280
          have p281 : 0 ≤ ((rd t277 x33_2) : Int) := of_decide_eq_true qz1
          have q281 : (rd t277 x33_2) < (x7_2.length : Int) := of_decide_eq_true qz1
          obtain ⟨ad281, e281, hx281_0⟩ := Kd.at_bool (Kd.R_reads' HO_7.out).2.2 (rd t277 x33_2) p281 q281
          (try rw [← Nbq31.out] at hx281_0)
          obtain rfl : (⟨go8, 0, none⟩ : Addr) = ad281 := (by injection e281)
          (first | simp only [add_plain] at hx281_0 | simp only [add_at] at hx281_0 | simp only [Addr.add, Nat.zero_add] at hx281_0 | skip)
          replace p281 := eq_true p281
          replace q281 := eq_true q281
          go_wp2
          (try simp only [← hl7_2])
          go_roundg k2
          case measure => have := HK1.out; have := HK2.out; omega
          case rel => exact ⟨(x7_2), (x8_2), (wrap64 (x33_2 + 1)), qz6, H', ⟨by have := HK1.out; have := HK2.out; omega⟩, ⟨by (try simp only [hl7_1]); (try simp only [hl7_2]); (with_reducible repeat (first | apply Kd.R_alloc | apply Kd.R_drewN | apply Kd.R_drew)); (first | exact HO_7.out | exact Kd.R_mono HO_7.out (fun _ h_ => h_.1) | exact Kd.R_mono HO_7.out (fun _ h_ => h_.2))⟩, ⟨by (try simp only [hl7_1]); (try simp only [hl7_2]); (with_reducible repeat (first | apply Kd.Q_alloc | apply Kd.Q_drewN | apply Kd.Q_drew)); (first | exact HO_8.out | exact Kd.R_mono HO_8.out (fun _ h_ => h_.1) | exact Kd.R_mono HO_8.out (fun _ h_ => h_.2))⟩, ⟨by (try simp only [hl7_1]); (try simp only [hl7_2]); (with_reducible repeat (first | apply Kd.R_alloc | apply Kd.R_drewN | apply Kd.R_drew)); (first | exact HO_31.out | exact Kd.R_mono HO_31.out (fun _ h_ => h_.1) | exact Kd.R_mono HO_31.out (fun _ h_ => h_.2))⟩, ⟨by (try simp only [hl7_1]); (try simp only [hl7_2]); (with_reducible repeat (first | refine blk_drewN ?_ _ | refine blk_drew ?_ | refine blk_alloc ?_ _)); exact BK264.out⟩, ⟨by repeat (first | (with_reducible first | exact HB.out | apply below_alloc | apply pw_below_drewN | apply below_drew1 | refine below_set ?_ GE264.out) | exact HB.out)⟩⟩
          }
          {
          replace c32 := Bool.eq_false_iff.mpr c32
          subst c32
          have H1 : (if (rd x8_1 0) = a1 then (if (rd t277 x33_2) = a2 then (impl_without.l1 k2 a1 a2 x7_2 x8_2 (rd x8_1 0) t277 (t277.length : Int) (wrap64 (x33_2 + 1)) a0_0 a0_1 l0_2) else (if (rd x8_1 0) = a2 then (if (rd t277 x33_2) = a1 then (impl_without.l1 k2 a1 a2 x7_2 x8_2 (rd x8_1 0) t277 (t277.length : Int) (wrap64 (x33_2 + 1)) a0_0 a0_1 l0_2) else (if x8_2.length < 17592186044416 then (impl_without.l1 k2 a1 a2 (x7_2.set ((rd t277 x33_2) : Int).toNat true) (x8_2 ++ [rd t277 x33_2]) (rd x8_1 0) t277 (t277.length : Int) (wrap64 (x33_2 + 1)) a0_0 a0_1 l0_2) else (none))) else (if x8_2.length < 17592186044416 then (impl_without.l1 k2 a1 a2 (x7_2.set ((rd t277 x33_2) : Int).toNat true) (x8_2 ++ [rd t277 x33_2]) (rd x8_1 0) t277 (t277.length : Int) (wrap64 (x33_2 + 1)) a0_0 a0_1 l0_2) else (none)))) else (if (rd x8_1 0) = a2 then (if (rd t277 x33_2) = a1 then (impl_without.l1 k2 a1 a2 x7_2 x8_2 (rd x8_1 0) t277 (t277.length : Int) (wrap64 (x33_2 + 1)) a0_0 a0_1 l0_2) else (if x8_2.length < 17592186044416 then (impl_without.l1 k2 a1 a2 (x7_2.set ((rd t277 x33_2) : Int).toNat true) (x8_2 ++ [rd t277 x33_2]) (rd x8_1 0) t277 (t277.length : Int) (wrap64 (x33_2 + 1)) a0_0 a0_1 l0_2) else (none))) else (if x8_2.length < 17592186044416 then (impl_without.l1 k2 a1 a2 (x7_2.set ((rd t277 x33_2) : Int).toNat true) (x8_2 ++ [rd t277 x33_2]) (rd x8_1 0) t277 (t277.length : Int) (wrap64 (x33_2 + 1)) a0_0 a0_1 l0_2) else (none)))) = some r := by rw [if_neg (show ¬ (false = true) by decide)] at H; exact H
          clear H
          have H := H1
          clear H1
          by_cases c33 : (rd x8_1 0) = a1
          {
          rw [if_pos c33] at H
          have c33b0 : ((rd x8_1 0) == a1) = true := beq_iff_eq.mpr c33
          have c33b1 : ((rd x8_1 0) != a1) = false := bne_eq_false_iff_eq.mpr c33
          clear c33
          by_cases c34 : (rd t277 x33_2) = a2
          {
          rw [if_pos c34] at H
          have c34b0 : ((rd t277 x33_2) == a2) = true := beq_iff_eq.mpr c34
          have c34b1 : ((rd t277 x33_2) != a2) = false := bne_eq_false_iff_eq.mpr c34
          clear c34
          have H' := Aside0.mk H
          clear H
          have p280 : 0 ≤ (x33_2 : Int) := of_decide_eq_true qz1
          have q280 : x33_2 < (t277.length : Int) := of_decide_eq_true qz1
          obtain ⟨ad280, e280, hx280_0⟩ := Kd.at_int (Kd.R_reads' HO_31.out).2.2 x33_2 p280 q280
          cases e280
          replace p280 := eq_true p280
          replace q280 := eq_true q280
          have p281 : 0 ≤ ((rd t277 x33_2) : Int) := of_decide_eq_true qz1
          have q281 : (rd t277 x33_2) < (x7_2.length : Int) := of_decide_eq_true qz1
          obtain ⟨ad281, e281, hx281_0⟩ := Kd.at_bool (Kd.R_reads' HO_7.out).2.2 (rd t277 x33_2) p281 q281
          (try rw [← Nbq31.out] at hx281_0)
          obtain rfl : (⟨go8, 0, none⟩ : Addr) = ad281 := (by injection e281)
          (first | simp only [add_plain] at hx281_0 | simp only [add_at] at hx281_0 | simp only [Addr.add, Nat.zero_add] at hx281_0 | skip)
          replace p281 := eq_true p281
          replace q281 := eq_true q281
          go_wp2
          (try simp only [← hl7_2])
          go_roundg k2
          case measure => have := HK1.out; have := HK2.out; omega
          case rel => exact ⟨(x7_2), (x8_2), (wrap64 (x33_2 + 1)), qz6, H', ⟨by have := HK1.out; have := HK2.out; omega⟩, ⟨by (try simp only [hl7_1]); (try simp only [hl7_2]); (with_reducible repeat (first | apply Kd.R_alloc | apply Kd.R_drewN | apply Kd.R_drew)); (first | exact HO_7.out | exact Kd.R_mono HO_7.out (fun _ h_ => h_.1) | exact Kd.R_mono HO_7.out (fun _ h_ => h_.2))⟩, ⟨by (try simp only [hl7_1]); (try simp only [hl7_2]); (with_reducible repeat (first | apply Kd.Q_alloc | apply Kd.Q_drewN | apply Kd.Q_drew)); (first | exact HO_8.out | exact Kd.R_mono HO_8.out (fun _ h_ => h_.1) | exact Kd.R_mono HO_8.out (fun _ h_ => h_.2))⟩, ⟨by (try simp only [hl7_1]); (try simp only [hl7_2]); (with_reducible repeat (first | apply Kd.R_alloc | apply Kd.R_drewN | apply Kd.R_drew)); (first | exact HO_31.out | exact Kd.R_mono HO_31.out (fun _ h_ => h_.1) | exact Kd.R_mono HO_31.out (fun _ h_ => h_.2))⟩, ⟨by (try simp only [hl7_1]); (try simp only [hl7_2]); (with_reducible repeat (first | refine blk_drewN ?_ _ | refine blk_drew ?_ | refine blk_alloc ?_ _)); exact BK264.out⟩, ⟨by repeat (first | (with_reducible first | exact HB.out | apply below_alloc | apply pw_below_drewN | apply below_drew1 | refine below_set ?_ GE264.out) | exact HB.out)⟩⟩
          }
          {
          rw [if_neg c34] at H
          have c34b0 : ((rd t277 x33_2) == a2) = false := beq_eq_false_iff_ne.mpr c34
          have c34b1 : ((rd t277 x33_2) != a2) = true := bne_iff_ne.mpr c34
          by_cases c35 : (rd x8_1 0) = a2
          {
          rw [if_pos c35] at H
          have c35b0 : ((rd x8_1 0) == a2) = true := beq_iff_eq.mpr c35
          have c35b1 : ((rd x8_1 0) != a2) = false := bne_eq_false_iff_eq.mpr c35
          clear c35
          by_cases c36 : (rd t277 x33_2) = a1
          {
          rw [if_pos c36] at H
          have c36b0 : ((rd t277 x33_2) == a1) = true := beq_iff_eq.mpr c36
          have c36b1 : ((rd t277 x33_2) != a1) = false := bne_eq_false_iff_eq.mpr c36
          clear c36
          have H' := Aside0.mk H
          clear H
          have p280 : 0 ≤ (x33_2 : Int) := of_decide_eq_true qz1
          have q280 : x33_2 < (t277.length : Int) := of_decide_eq_true qz1
          obtain ⟨ad280, e280, hx280_0⟩ := Kd.at_int (Kd.R_reads' HO_31.out).2.2 x33_2 p280 q280
          cases e280
          replace p280 := eq_true p280
          replace q280 := eq_true q280
          have p281 : 0 ≤ ((rd t277 x33_2) : Int) := of_decide_eq_true qz1
          have q281 : (rd t277 x33_2) < (x7_2.length : Int) := of_decide_eq_true qz1
          obtain ⟨ad281, e281, hx281_0⟩ := Kd.at_bool (Kd.R_reads' HO_7.out).2.2 (rd t277 x33_2) p281 q281
          (try rw [← Nbq31.out] at hx281_0)
          obtain rfl : (⟨go8, 0, none⟩ : Addr) = ad281 := (by injection e281)
          (first | simp only [add_plain] at hx281_0 | simp only [add_at] at hx281_0 | simp only [Addr.add, Nat.zero_add] at hx281_0 | skip)
          replace p281 := eq_true p281
          replace q281 := eq_true q281
          go_wp2
          (try simp only [← hl7_2])
          go_roundg k2
          case measure => have := HK1.out; have := HK2.out; omega
          case rel => exact ⟨(x7_2), (x8_2), (wrap64 (x33_2 + 1)), qz6, H', ⟨by have := HK1.out; have := HK2.out; omega⟩, ⟨by (try simp only [hl7_1]); (try simp only [hl7_2]); (with_reducible repeat (first | apply Kd.R_alloc | apply Kd.R_drewN | apply Kd.R_drew)); (first | exact HO_7.out | exact Kd.R_mono HO_7.out (fun _ h_ => h_.1) | exact Kd.R_mono HO_7.out (fun _ h_ => h_.2))⟩, ⟨by (try simp only [hl7_1]); (try simp only [hl7_2]); (with_reducible repeat (first | apply Kd.Q_alloc | apply Kd.Q_drewN | apply Kd.Q_drew)); (first | exact HO_8.out | exact Kd.R_mono HO_8.out (fun _ h_ => h_.1) | exact Kd.R_mono HO_8.out (fun _ h_ => h_.2))⟩, ⟨by (try simp only [hl7_1]); (try simp only [hl7_2]); (with_reducible repeat (first | apply Kd.R_alloc | apply Kd.R_drewN | apply Kd.R_drew)); (first | exact HO_31.out | exact Kd.R_mono HO_31.out (fun _ h_ => h_.1) | exact Kd.R_mono HO_31.out (fun _ h_ => h_.2))⟩, ⟨by (try simp only [hl7_1]); (try simp only [hl7_2]); (with_reducible repeat (first | refine blk_drewN ?_ _ | refine blk_drew ?_ | refine blk_alloc ?_ _)); exact BK264.out⟩, ⟨by repeat (first | (with_reducible first | exact HB.out | apply below_alloc | apply pw_below_drewN | apply below_drew1 | refine below_set ?_ GE264.out) | exact HB.out)⟩⟩
          }
          {
          rw [if_neg c36] at H
          have c36b0 : ((rd t277 x33_2) == a1) = false := beq_eq_false_iff_ne.mpr c36
          have c36b1 : ((rd t277 x33_2) != a1) = true := bne_iff_ne.mpr c36
          obtain ⟨y282, hy282⟩ : ∃ y_ : List Bool, y_ = (x7_2.set ((rd t277 x33_2) : Int).toNat true) := ⟨_, rfl⟩
          replace H : (if x8_2.length < 17592186044416 then (impl_without.l1 k2 a1 a2 y282 (x8_2 ++ [rd t277 x33_2]) (rd x8_1 0) t277 (t277.length : Int) (wrap64 (x33_2 + 1)) a0_0 a0_1 l0_2) else (none)) = some r := by first | (rw [hy282]; with_reducible exact H) | (have H2_ := (Option.bind_some _ _).symm.trans H; rw [hy282]; with_reducible exact H2_) | (have H2_ := (Option.bind_some _ _).symm.trans H; with_reducible exact H2_) | with_reducible exact H | (rw [hy282]; exact H) | exact H
          have Ny282 := Aside0.mk hy282
          clear hy282
          by_cases c38 : x8_2.length < 17592186044416
          {
          rw [if_pos c38] at H
          have LMc38 := Aside0.mk c38
          clear c38
          obtain ⟨y283, hy283⟩ : ∃ y_ : List Int, y_ = (x8_2 ++ [rd t277 x33_2]) := ⟨_, rfl⟩
          replace H : (impl_without.l1 k2 a1 a2 y282 y283 (rd x8_1 0) t277 (t277.length : Int) (wrap64 (x33_2 + 1)) a0_0 a0_1 l0_2) = some r := by first | (rw [hy283]; with_reducible exact H) | (have H2_ := (Option.bind_some _ _).symm.trans H; rw [hy283]; with_reducible exact H2_) | (have H2_ := (Option.bind_some _ _).symm.trans H; with_reducible exact H2_) | with_reducible exact H | (rw [hy283]; exact H) | exact H
          have Ny283 := Aside0.mk hy283
          clear hy283
          have H' := Aside0.mk H
          clear H
          have p280 : 0 ≤ (x33_2 : Int) := of_decide_eq_true qz1
          have q280 : x33_2 < (t277.length : Int) := of_decide_eq_true qz1
          obtain ⟨ad280, e280, hx280_0⟩ := Kd.at_int (Kd.R_reads' HO_31.out).2.2 x33_2 p280 q280
          cases e280
          replace p280 := eq_true p280
          replace q280 := eq_true q280
          have p281 : 0 ≤ ((rd t277 x33_2) : Int) := of_decide_eq_true qz1
          have q281 : (rd t277 x33_2) < (x7_2.length : Int) := of_decide_eq_true qz1
          obtain ⟨ad281, e281, hx281_0⟩ := Kd.at_bool (Kd.R_reads' HO_7.out).2.2 (rd t277 x33_2) p281 q281
          (try rw [← Nbq31.out] at hx281_0)
          obtain rfl : (⟨go8, 0, none⟩ : Addr) = ad281 := (by injection e281)
          (first | simp only [add_plain] at hx281_0 | simp only [add_at] at hx281_0 | simp only [Addr.add, Nat.zero_add] at hx281_0 | skip)
          replace p281 := eq_true p281
          replace q281 := eq_true q281
          have p37 : 0 ≤ ((rd t277 x33_2) : Int) := of_decide_eq_true qz1
          have q37 : ((rd t277 x33_2) : Int) < ((x7_2.length : Int) : Int) := of_decide_eq_true qz1
          obtain ⟨hx37_0, hf37_0⟩ := Kd.R_celln false HO_7.out ((rd t277 x33_2) : Int) p37 q37
          replace p37 := eq_true p37
          replace q37 := eq_true q37
          have HP39 := Kd.R_putg HO_7.out ((rd t277 x33_2) : Int) true
          go_wp2_with (first | ((with_reducible refine gate_store (t := 4) (p := 63) rfl ?_); refine store_event (t := 4) (p := 63) (v := ?vo_w40) (w1 := (wr.setCell ⟨go8, ((rd t277 x33_2) : Int).toNat, none⟩ (.bool true))) ?hg ?ho ?hn ?hr ?_; (case ho => rfl); (case hg => rfl); (case hn => rfl); (case hr => first | (go_simp; done) | (go_simp; rfl)); intro w40 hw; have hg : wr.grownBy w40 (some go8) := (by rw [hw]; exact HP39.2); have hp_ : Kd.R Kd.bool 4 w40 w.heap.size (fun _ => True) (.slice (some ⟨go8, 0, none⟩) x7_2.length co8) y282 := (by rw [hw, Ny282.out]; exact HP39.1); clear HP39; have n0_ := Aside0.mk (hp_); have n1_ := Aside0.mk (Kd.Q_over' (v := (.slice (some ⟨go8, 0, none⟩) x7_2.length co8)) (by (with_reducible repeat (first | apply Kd.Q_alloc | apply Kd.Q_drewN | apply Kd.Q_drew)); exact HO_8.out) (Kd.R_typed HO_7.out) (by decide) hg); have n2_ := Aside0.mk (Kd.R_over' (v := (.slice (some ⟨go8, 0, none⟩) x7_2.length co8)) (by (with_reducible repeat (first | apply Kd.R_alloc | apply Kd.R_drewN | apply Kd.R_drew)); exact HO_31.out) (Kd.R_typed HO_7.out) (by decide) hg); have n3_ := Aside0.mk (blk_grown (g := gb264) (o := .cells #[.int .i64 a0_0, .int .i64 a0_1, .slice A0_2 l0_2.length c0_2] 27 (0, 0)) (by (with_reducible repeat (first | refine blk_drewN ?_ _ | refine blk_drew ?_ | refine blk_alloc ?_ _)); exact BK264.out) hg (Kd.R_ne HO_7.out BK264.out (by decide))); have n4_ := Aside0.mk ((by rw [hw]; exact below_set (HB.out) GB8.out : Below w.heap.size w w40)); clear HO_7; clear HO_8; clear HO_31; clear BK264; clear HB; have HO_7 := n0_; have HO_8 := n1_; have HO_31 := n2_; have BK264 := n3_; have HB := n4_; clear n0_ n1_ n2_ n3_ n4_; clear hg hw hp_) | ((with_reducible refine gate_builtin (b := .append) (xs := #[.tmp 64, .tmp 66]) rfl ?_); at_builtin; refine Kd.Q_append (Kd.int .i64) (w0 := w) w.heap.size rfl (.tmp 64) (.tmp 66) 22 3 (.int .i64 0) 8 rfl Try.underlying22 info3 rfl (by decide) (by omega) u8 x8_2 (rd t277 x33_2) [.int .i64 (rd t277 x33_2)] (fun k_ => some k_ ≠ (.slice (some ad280) t277.length co25 : Value).ownBlock) (fun _ => False) rfl rfl ?aP (fun _ hk => hk.elim) ?aF ?aO ?aB ?aS ?aL ?_; (case aP => exact rfl); (case aB => exact qz10); (case aF => exact (fun k_ hk => Kd.fresh' (Kd.R_lt (by (with_reducible repeat (first | apply Kd.R_alloc | apply Kd.R_drewN | apply Kd.R_drew)); exact HO_31.out)) k_ hk)); (case aO => exact (by (with_reducible repeat (first | apply Kd.Q_alloc | apply Kd.Q_drewN | apply Kd.Q_drew)); exact HO_8.out)); (case aS => exact (below_size qz10)); (case aL => have := LMc38.out; omega); intro v284 w41 ho hb hg hat; rw [← Ny283.out] at ho; have n0_ := Aside0.mk (Kd.R_over' qz17 (Kd.Q_typed (by (with_reducible repeat (first | apply Kd.Q_alloc | apply Kd.Q_drewN | apply Kd.Q_drew)); exact HO_8.out)) (by decide) hg); have n1_ := Aside0.mk (Kd.R_after (ok := (fun _ => True)) (by (with_reducible repeat (first | apply Kd.R_alloc | apply Kd.R_drewN | apply Kd.R_drew)); exact Kd.R_mono HO_31.out (fun _ hk => ⟨trivial, hk⟩)) hg hat); have n2_ := Aside0.mk (blk_grown (g := gb264) (o := .cells #[.int .i64 a0_0, .int .i64 a0_1, .slice A0_2 l0_2.length c0_2] 27 (0, 0)) (by (with_reducible repeat (first | refine blk_drewN ?_ _ | refine blk_drew ?_ | refine blk_alloc ?_ _)); exact BK264.out) hg (Kd.Q_ne HO_8.out BK264.out (by decide))); have n3_ := Aside0.mk (hb); have n4_ := Aside0.mk (ho); clear HO_7; clear HO_31; clear BK264; clear HB; clear HO_8; have HO_7 := n0_; have HO_31 := n1_; have BK264 := n2_; have HB := n3_; have HO285 := n4_; clear n0_ n1_ n2_ n3_ n4_; clear ho hb hg hat))
          (try simp only [← hl7_2])
          go_roundg k2
          case measure => have := HK1.out; have := HK2.out; omega
          case rel => exact ⟨(y282), (y283), (wrap64 (x33_2 + 1)), qz6, H', ⟨by have := HK1.out; have := HK2.out; omega⟩, ⟨by (try simp only [hl7_1]); (try simp only [hl7_2]); (with_reducible repeat (first | apply Kd.R_alloc | apply Kd.R_drewN | apply Kd.R_drew)); (first | exact HO_7.out | exact Kd.R_mono HO_7.out (fun _ h_ => h_.1) | exact Kd.R_mono HO_7.out (fun _ h_ => h_.2))⟩, ⟨by (try simp only [hl7_1]); (try simp only [hl7_2]); (with_reducible repeat (first | apply Kd.Q_alloc | apply Kd.Q_drewN | apply Kd.Q_drew)); (first | exact HO285.out | exact Kd.R_mono HO285.out (fun _ h_ => h_.1) | exact Kd.R_mono HO285.out (fun _ h_ => h_.2))⟩, ⟨by (try simp only [hl7_1]); (try simp only [hl7_2]); (with_reducible repeat (first | apply Kd.R_alloc | apply Kd.R_drewN | apply Kd.R_drew)); exact Kd.R_mono HO_31.out (fun _ hk => hk.2)⟩, ⟨by (try simp only [hl7_1]); (try simp only [hl7_2]); (with_reducible repeat (first | refine blk_drewN ?_ _ | refine blk_drew ?_ | refine blk_alloc ?_ _)); exact BK264.out⟩, ⟨by repeat (first | (with_reducible first | exact HB.out | apply below_alloc | apply pw_below_drewN | apply below_drew1 | refine below_set ?_ GE264.out) | exact HB.out)⟩⟩
          }
          {
          rw [if_neg c38] at H
          exact absurd H (by simp)
          }
          }
          }
          {
          rw [if_neg c35] at H
          have c35b0 : ((rd x8_1 0) == a2) = false := beq_eq_false_iff_ne.mpr c35
          have c35b1 : ((rd x8_1 0) != a2) = true := bne_iff_ne.mpr c35
          obtain ⟨y286, hy286⟩ : ∃ y_ : List Bool, y_ = (x7_2.set ((rd t277 x33_2) : Int).toNat true) := ⟨_, rfl⟩
          replace H : (if x8_2.length < 17592186044416 then (impl_without.l1 k2 a1 a2 y286 (x8_2 ++ [rd t277 x33_2]) (rd x8_1 0) t277 (t277.length : Int) (wrap64 (x33_2 + 1)) a0_0 a0_1 l0_2) else (none)) = some r := by first | (rw [hy286]; with_reducible exact H) | (have H2_ := (Option.bind_some _ _).symm.trans H; rw [hy286]; with_reducible exact H2_) | (have H2_ := (Option.bind_some _ _).symm.trans H; with_reducible exact H2_) | with_reducible exact H | (rw [hy286]; exact H) | exact H
          have Ny286 := Aside0.mk hy286
          clear hy286
          by_cases c43 : x8_2.length < 17592186044416
          {
          rw [if_pos c43] at H
          have LMc43 := Aside0.mk c43
          clear c43
          obtain ⟨y287, hy287⟩ : ∃ y_ : List Int, y_ = (x8_2 ++ [rd t277 x33_2]) := ⟨_, rfl⟩
          replace H : (impl_without.l1 k2 a1 a2 y286 y287 (rd x8_1 0) t277 (t277.length : Int) (wrap64 (x33_2 + 1)) a0_0 a0_1 l0_2) = some r := by first | (rw [hy287]; with_reducible exact H) | (have H2_ := (Option.bind_some _ _).symm.trans H; rw [hy287]; with_reducible exact H2_) | (have H2_ := (Option.bind_some _ _).symm.trans H; with_reducible exact H2_) | with_reducible exact H | (rw [hy287]; exact H) | exact H
          have Ny287 := Aside0.mk hy287
          clear hy287
          have H' := Aside0.mk H
          clear H
          have p280 : 0 ≤ (x33_2 : Int) := of_decide_eq_true qz1
          have q280 : x33_2 < (t277.length : Int) := of_decide_eq_true qz1
          obtain ⟨ad280, e280, hx280_0⟩ := Kd.at_int (Kd.R_reads' HO_31.out).2.2 x33_2 p280 q280
          cases e280
          replace p280 := eq_true p280
          replace q280 := eq_true q280
          have p281 : 0 ≤ ((rd t277 x33_2) : Int) := of_decide_eq_true qz1
          have q281 : (rd t277 x33_2) < (x7_2.length : Int) := of_decide_eq_true qz1
          obtain ⟨ad281, e281, hx281_0⟩ := Kd.at_bool (Kd.R_reads' HO_7.out).2.2 (rd t277 x33_2) p281 q281
          (try rw [← Nbq31.out] at hx281_0)
          obtain rfl : (⟨go8, 0, none⟩ : Addr) = ad281 := (by injection e281)
          (first | simp only [add_plain] at hx281_0 | simp only [add_at] at hx281_0 | simp only [Addr.add, Nat.zero_add] at hx281_0 | skip)
          replace p281 := eq_true p281
          replace q281 := eq_true q281
          have p42 : 0 ≤ ((rd t277 x33_2) : Int) := of_decide_eq_true qz1
          have q42 : ((rd t277 x33_2) : Int) < ((x7_2.length : Int) : Int) := of_decide_eq_true qz1
          obtain ⟨hx42_0, hf42_0⟩ := Kd.R_celln false HO_7.out ((rd t277 x33_2) : Int) p42 q42
          replace p42 := eq_true p42
          replace q42 := eq_true q42
          have HP44 := Kd.R_putg HO_7.out ((rd t277 x33_2) : Int) true
          go_wp2_with (first | ((with_reducible refine gate_store (t := 4) (p := 63) rfl ?_); refine store_event (t := 4) (p := 63) (v := ?vo_w45) (w1 := (wr.setCell ⟨go8, ((rd t277 x33_2) : Int).toNat, none⟩ (.bool true))) ?hg ?ho ?hn ?hr ?_; (case ho => rfl); (case hg => rfl); (case hn => rfl); (case hr => first | (go_simp; done) | (go_simp; rfl)); intro w45 hw; have hg : wr.grownBy w45 (some go8) := (by rw [hw]; exact HP44.2); have hp_ : Kd.R Kd.bool 4 w45 w.heap.size (fun _ => True) (.slice (some ⟨go8, 0, none⟩) x7_2.length co8) y286 := (by rw [hw, Ny286.out]; exact HP44.1); clear HP44; have n0_ := Aside0.mk (hp_); have n1_ := Aside0.mk (Kd.Q_over' (v := (.slice (some ⟨go8, 0, none⟩) x7_2.length co8)) (by (with_reducible repeat (first | apply Kd.Q_alloc | apply Kd.Q_drewN | apply Kd.Q_drew)); exact HO_8.out) (Kd.R_typed HO_7.out) (by decide) hg); have n2_ := Aside0.mk (Kd.R_over' (v := (.slice (some ⟨go8, 0, none⟩) x7_2.length co8)) (by (with_reducible repeat (first | apply Kd.R_alloc | apply Kd.R_drewN | apply Kd.R_drew)); exact HO_31.out) (Kd.R_typed HO_7.out) (by decide) hg); have n3_ := Aside0.mk (blk_grown (g := gb264) (o := .cells #[.int .i64 a0_0, .int .i64 a0_1, .slice A0_2 l0_2.length c0_2] 27 (0, 0)) (by (with_reducible repeat (first | refine blk_drewN ?_ _ | refine blk_drew ?_ | refine blk_alloc ?_ _)); exact BK264.out) hg (Kd.R_ne HO_7.out BK264.out (by decide))); have n4_ := Aside0.mk ((by rw [hw]; exact below_set (HB.out) GB8.out : Below w.heap.size w w45)); clear HO_7; clear HO_8; clear HO_31; clear BK264; clear HB; have HO_7 := n0_; have HO_8 := n1_; have HO_31 := n2_; have BK264 := n3_; have HB := n4_; clear n0_ n1_ n2_ n3_ n4_; clear hg hw hp_) | ((with_reducible refine gate_builtin (b := .append) (xs := #[.tmp 64, .tmp 66]) rfl ?_); at_builtin; refine Kd.Q_append (Kd.int .i64) (w0 := w) w.heap.size rfl (.tmp 64) (.tmp 66) 22 3 (.int .i64 0) 8 rfl Try.underlying22 info3 rfl (by decide) (by omega) u8 x8_2 (rd t277 x33_2) [.int .i64 (rd t277 x33_2)] (fun k_ => some k_ ≠ (.slice (some ad280) t277.length co25 : Value).ownBlock) (fun _ => False) rfl rfl ?aP (fun _ hk => hk.elim) ?aF ?aO ?aB ?aS ?aL ?_; (case aP => exact rfl); (case aB => exact qz10); (case aF => exact (fun k_ hk => Kd.fresh' (Kd.R_lt (by (with_reducible repeat (first | apply Kd.R_alloc | apply Kd.R_drewN | apply Kd.R_drew)); exact HO_31.out)) k_ hk)); (case aO => exact (by (with_reducible repeat (first | apply Kd.Q_alloc | apply Kd.Q_drewN | apply Kd.Q_drew)); exact HO_8.out)); (case aS => exact (below_size qz10)); (case aL => have := LMc43.out; omega); intro v288 w46 ho hb hg hat; rw [← Ny287.out] at ho; have n0_ := Aside0.mk (Kd.R_over' qz17 (Kd.Q_typed (by (with_reducible repeat (first | apply Kd.Q_alloc | apply Kd.Q_drewN | apply Kd.Q_drew)); exact HO_8.out)) (by decide) hg); have n1_ := Aside0.mk (Kd.R_after (ok := (fun _ => True)) (by (with_reducible repeat (first | apply Kd.R_alloc | apply Kd.R_drewN | apply Kd.R_drew)); exact Kd.R_mono HO_31.out (fun _ hk => ⟨trivial, hk⟩)) hg hat); have n2_ := Aside0.mk (blk_grown (g := gb264) (o := .cells #[.int .i64 a0_0, .int .i64 a0_1, .slice A0_2 l0_2.length c0_2] 27 (0, 0)) (by (with_reducible repeat (first | refine blk_drewN ?_ _ | refine blk_drew ?_ | refine blk_alloc ?_ _)); exact BK264.out) hg (Kd.Q_ne HO_8.out BK264.out (by decide))); have n3_ := Aside0.mk (hb); have n4_ := Aside0.mk (ho); clear HO_7; clear HO_31; clear BK264; clear HB; clear HO_8; have HO_7 := n0_; have HO_31 := n1_; have BK264 := n2_; have HB := n3_; have HO289 := n4_; clear n0_ n1_ n2_ n3_ n4_; clear ho hb hg hat))
          (try simp only [← hl7_2])
          go_roundg k2
          case measure => have := HK1.out; have := HK2.out; omega
          case rel => exact ⟨(y286), (y287), (wrap64 (x33_2 + 1)), qz6, H', ⟨by have := HK1.out; have := HK2.out; omega⟩, ⟨by (try simp only [hl7_1]); (try simp only [hl7_2]); (with_reducible repeat (first | apply Kd.R_alloc | apply Kd.R_drewN | apply Kd.R_drew)); (first | exact HO_7.out | exact Kd.R_mono HO_7.out (fun _ h_ => h_.1) | exact Kd.R_mono HO_7.out (fun _ h_ => h_.2))⟩, ⟨by (try simp only [hl7_1]); (try simp only [hl7_2]); (with_reducible repeat (first | apply Kd.Q_alloc | apply Kd.Q_drewN | apply Kd.Q_drew)); (first | exact HO289.out | exact Kd.R_mono HO289.out (fun _ h_ => h_.1) | exact Kd.R_mono HO289.out (fun _ h_ => h_.2))⟩, ⟨by (try simp only [hl7_1]); (try simp only [hl7_2]); (with_reducible repeat (first | apply Kd.R_alloc | apply Kd.R_drewN | apply Kd.R_drew)); exact Kd.R_mono HO_31.out (fun _ hk => hk.2)⟩, ⟨by (try simp only [hl7_1]); (try simp only [hl7_2]); (with_reducible repeat (first | refine blk_drewN ?_ _ | refine blk_drew ?_ | refine blk_alloc ?_ _)); exact BK264.out⟩, ⟨by repeat (first | (with_reducible first | exact HB.out | apply below_alloc | apply pw_below_drewN | apply below_drew1 | refine below_set ?_ GE264.out) | exact HB.out)⟩⟩
          }
          {
          rw [if_neg c43] at H
          exact absurd H (by simp)
          }
          }
          }
          }
          {
          rw [if_neg c33] at H
          have c33b0 : ((rd x8_1 0) == a1) = false := beq_eq_false_iff_ne.mpr c33
          have c33b1 : ((rd x8_1 0) != a1) = true := bne_iff_ne.mpr c33
          by_cases c47 : (rd x8_1 0) = a2
          {
          rw [if_pos c47] at H
          have c47b0 : ((rd x8_1 0) == a2) = true := beq_iff_eq.mpr c47
          have c47b1 : ((rd x8_1 0) != a2) = false := bne_eq_false_iff_eq.mpr c47
          clear c47
          by_cases c48 : (rd t277 x33_2) = a1
          {
          rw [if_pos c48] at H
          have c48b0 : ((rd t277 x33_2) == a1) = true := beq_iff_eq.mpr c48
          have c48b1 : ((rd t277 x33_2) != a1) = false := bne_eq_false_iff_eq.mpr c48
          clear c48
          have H' := Aside0.mk H
          clear H
          have p280 : 0 ≤ (x33_2 : Int) := of_decide_eq_true qz1
          have q280 : x33_2 < (t277.length : Int) := of_decide_eq_true qz1
          obtain ⟨ad280, e280, hx280_0⟩ := Kd.at_int (Kd.R_reads' HO_31.out).2.2 x33_2 p280 q280
          cases e280
          replace p280 := eq_true p280
          replace q280 := eq_true q280
          have p281 : 0 ≤ ((rd t277 x33_2) : Int) := of_decide_eq_true qz1
          have q281 : (rd t277 x33_2) < (x7_2.length : Int) := of_decide_eq_true qz1
          obtain ⟨ad281, e281, hx281_0⟩ := Kd.at_bool (Kd.R_reads' HO_7.out).2.2 (rd t277 x33_2) p281 q281
          (try rw [← Nbq31.out] at hx281_0)
          obtain rfl : (⟨go8, 0, none⟩ : Addr) = ad281 := (by injection e281)
          (first | simp only [add_plain] at hx281_0 | simp only [add_at] at hx281_0 | simp only [Addr.add, Nat.zero_add] at hx281_0 | skip)
          replace p281 := eq_true p281
          replace q281 := eq_true q281
          go_wp2
          (try simp only [← hl7_2])
          go_roundg k2
          case measure => have := HK1.out; have := HK2.out; omega
          case rel => exact ⟨(x7_2), (x8_2), (wrap64 (x33_2 + 1)), qz6, H', ⟨by have := HK1.out; have := HK2.out; omega⟩, ⟨by (try simp only [hl7_1]); (try simp only [hl7_2]); (with_reducible repeat (first | apply Kd.R_alloc | apply Kd.R_drewN | apply Kd.R_drew)); (first | exact HO_7.out | exact Kd.R_mono HO_7.out (fun _ h_ => h_.1) | exact Kd.R_mono HO_7.out (fun _ h_ => h_.2))⟩, ⟨by (try simp only [hl7_1]); (try simp only [hl7_2]); (with_reducible repeat (first | apply Kd.Q_alloc | apply Kd.Q_drewN | apply Kd.Q_drew)); (first | exact HO_8.out | exact Kd.R_mono HO_8.out (fun _ h_ => h_.1) | exact Kd.R_mono HO_8.out (fun _ h_ => h_.2))⟩, ⟨by (try simp only [hl7_1]); (try simp only [hl7_2]); (with_reducible repeat (first | apply Kd.R_alloc | apply Kd.R_drewN | apply Kd.R_drew)); (first | exact HO_31.out | exact Kd.R_mono HO_31.out (fun _ h_ => h_.1) | exact Kd.R_mono HO_31.out (fun _ h_ => h_.2))⟩, ⟨by (try simp only [hl7_1]); (try simp only [hl7_2]); (with_reducible repeat (first | refine blk_drewN ?_ _ | refine blk_drew ?_ | refine blk_alloc ?_ _)); exact BK264.out⟩, ⟨by repeat (first | (with_reducible first | exact HB.out | apply below_alloc | apply pw_below_drewN | apply below_drew1 | refine below_set ?_ GE264.out) | exact HB.out)⟩⟩
          }
          {
          rw [if_neg c48] at H
          have c48b0 : ((rd t277 x33_2) == a1) = false := beq_eq_false_iff_ne.mpr c48
          have c48b1 : ((rd t277 x33_2) != a1) = true := bne_iff_ne.mpr c48
          obtain ⟨y290, hy290⟩ : ∃ y_ : List Bool, y_ = (x7_2.set ((rd t277 x33_2) : Int).toNat true) := ⟨_, rfl⟩
          replace H : (if x8_2.length < 17592186044416 then (impl_without.l1 k2 a1 a2 y290 (x8_2 ++ [rd t277 x33_2]) (rd x8_1 0) t277 (t277.length : Int) (wrap64 (x33_2 + 1)) a0_0 a0_1 l0_2) else (none)) = some r := by first | (rw [hy290]; with_reducible exact H) | (have H2_ := (Option.bind_some _ _).symm.trans H; rw [hy290]; with_reducible exact H2_) | (have H2_ := (Option.bind_some _ _).symm.trans H; with_reducible exact H2_) | with_reducible exact H | (rw [hy290]; exact H) | exact H
          have Ny290 := Aside0.mk hy290
          clear hy290
          by_cases c50 : x8_2.length < 17592186044416
          {
          rw [if_pos c50] at H
          have LMc50 := Aside0.mk c50
          clear c50
          obtain ⟨y291, hy291⟩ : ∃ y_ : List Int, y_ = (x8_2 ++ [rd t277 x33_2]) := ⟨_, rfl⟩
          replace H : (impl_without.l1 k2 a1 a2 y290 y291 (rd x8_1 0) t277 (t277.length : Int) (wrap64 (x33_2 + 1)) a0_0 a0_1 l0_2) = some r := by first | (rw [hy291]; with_reducible exact H) | (have H2_ := (Option.bind_some _ _).symm.trans H; rw [hy291]; with_reducible exact H2_) | (have H2_ := (Option.bind_some _ _).symm.trans H; with_reducible exact H2_) | with_reducible exact H | (rw [hy291]; exact H) | exact H
          have Ny291 := Aside0.mk hy291
          clear hy291
          have H' := Aside0.mk H
          clear H
          have p280 : 0 ≤ (x33_2 : Int) := of_decide_eq_true qz1
          have q280 : x33_2 < (t277.length : Int) := of_decide_eq_true qz1
          obtain ⟨ad280, e280, hx280_0⟩ := Kd.at_int (Kd.R_reads' HO_31.out).2.2 x33_2 p280 q280
          cases e280
          replace p280 := eq_true p280
          replace q280 := eq_true q280
          have p281 : 0 ≤ ((rd t277 x33_2) : Int) := of_decide_eq_true qz1
          have q281 : (rd t277 x33_2) < (x7_2.length : Int) := of_decide_eq_true qz1
          obtain ⟨ad281, e281, hx281_0⟩ := Kd.at_bool (Kd.R_reads' HO_7.out).2.2 (rd t277 x33_2) p281 q281
          (try rw [← Nbq31.out] at hx281_0)
          obtain rfl : (⟨go8, 0, none⟩ : Addr) = ad281 := (by injection e281)
          (first | simp only [add_plain] at hx281_0 | simp only [add_at] at hx281_0 | simp only [Addr.add, Nat.zero_add] at hx281_0 | skip)
          replace p281 := eq_true p281
          replace q281 := eq_true q281
          have p49 : 0 ≤ ((rd t277 x33_2) : Int) := of_decide_eq_true qz1
          have q49 : ((rd t277 x33_2) : Int) < ((x7_2.length : Int) : Int) := of_decide_eq_true qz1
          obtain ⟨hx49_0, hf49_0⟩ := Kd.R_celln false HO_7.out ((rd t277 x33_2) : Int) p49 q49
          replace p49 := eq_true p49
          replace q49 := eq_true q49
          have HP51 := Kd.R_putg HO_7.out ((rd t277 x33_2) : Int) true
          go_wp2_with (first | ((with_reducible refine gate_store (t := 4) (p := 63) rfl ?_); refine store_event (t := 4) (p := 63) (v := ?vo_w52) (w1 := (wr.setCell ⟨go8, ((rd t277 x33_2) : Int).toNat, none⟩ (.bool true))) ?hg ?ho ?hn ?hr ?_; (case ho => rfl); (case hg => rfl); (case hn => rfl); (case hr => first | (go_simp; done) | (go_simp; rfl)); intro w52 hw; have hg : wr.grownBy w52 (some go8) := (by rw [hw]; exact HP51.2); have hp_ : Kd.R Kd.bool 4 w52 w.heap.size (fun _ => True) (.slice (some ⟨go8, 0, none⟩) x7_2.length co8) y290 := (by rw [hw, Ny290.out]; exact HP51.1); clear HP51; have n0_ := Aside0.mk (hp_); have n1_ := Aside0.mk (Kd.Q_over' (v := (.slice (some ⟨go8, 0, none⟩) x7_2.length co8)) (by (with_reducible repeat (first | apply Kd.Q_alloc | apply Kd.Q_drewN | apply Kd.Q_drew)); exact HO_8.out) (Kd.R_typed HO_7.out) (by decide) hg); have n2_ := Aside0.mk (Kd.R_over' (v := (.slice (some ⟨go8, 0, none⟩) x7_2.length co8)) (by (with_reducible repeat (first | apply Kd.R_alloc | apply Kd.R_drewN | apply Kd.R_drew)); exact HO_31.out) (Kd.R_typed HO_7.out) (by decide) hg); have n3_ := Aside0.mk (blk_grown (g := gb264) (o := .cells #[.int .i64 a0_0, .int .i64 a0_1, .slice A0_2 l0_2.length c0_2] 27 (0, 0)) (by (with_reducible repeat (first | refine blk_drewN ?_ _ | refine blk_drew ?_ | refine blk_alloc ?_ _)); exact BK264.out) hg (Kd.R_ne HO_7.out BK264.out (by decide))); have n4_ := Aside0.mk ((by rw [hw]; exact below_set (HB.out) GB8.out : Below w.heap.size w w52)); clear HO_7; clear HO_8; clear HO_31; clear BK264; clear HB; have HO_7 := n0_; have HO_8 := n1_; have HO_31 := n2_; have BK264 := n3_; have HB := n4_; clear n0_ n1_ n2_ n3_ n4_; clear hg hw hp_) | ((with_reducible refine gate_builtin (b := .append) (xs := #[.tmp 64, .tmp 66]) rfl ?_); at_builtin; refine Kd.Q_append (Kd.int .i64) (w0 := w) w.heap.size rfl (.tmp 64) (.tmp 66) 22 3 (.int .i64 0) 8 rfl Try.underlying22 info3 rfl (by decide) (by omega) u8 x8_2 (rd t277 x33_2) [.int .i64 (rd t277 x33_2)] (fun k_ => some k_ ≠ (.slice (some ad280) t277.length co25 : Value).ownBlock) (fun _ => False) rfl rfl ?aP (fun _ hk => hk.elim) ?aF ?aO ?aB ?aS ?aL ?_; (case aP => exact rfl); (case aB => exact qz10); (case aF => exact (fun k_ hk => Kd.fresh' (Kd.R_lt (by (with_reducible repeat (first | apply Kd.R_alloc | apply Kd.R_drewN | apply Kd.R_drew)); exact HO_31.out)) k_ hk)); (case aO => exact (by (with_reducible repeat (first | apply Kd.Q_alloc | apply Kd.Q_drewN | apply Kd.Q_drew)); exact HO_8.out)); (case aS => exact (below_size qz10)); (case aL => have := LMc50.out; omega); intro v292 w53 ho hb hg hat; rw [← Ny291.out] at ho; have n0_ := Aside0.mk (Kd.R_over' qz17 (Kd.Q_typed (by (with_reducible repeat (first | apply Kd.Q_alloc | apply Kd.Q_drewN | apply Kd.Q_drew)); exact HO_8.out)) (by decide) hg); have n1_ := Aside0.mk (Kd.R_after (ok := (fun _ => True)) (by (with_reducible repeat (first | apply Kd.R_alloc | apply Kd.R_drewN | apply Kd.R_drew)); exact Kd.R_mono HO_31.out (fun _ hk => ⟨trivial, hk⟩)) hg hat); have n2_ := Aside0.mk (blk_grown (g := gb264) (o := .cells #[.int .i64 a0_0, .int .i64 a0_1, .slice A0_2 l0_2.length c0_2] 27 (0, 0)) (by (with_reducible repeat (first | refine blk_drewN ?_ _ | refine blk_drew ?_ | refine blk_alloc ?_ _)); exact BK264.out) hg (Kd.Q_ne HO_8.out BK264.out (by decide))); have n3_ := Aside0.mk (hb); have n4_ := Aside0.mk (ho); clear HO_7; clear HO_31; clear BK264; clear HB; clear HO_8; have HO_7 := n0_; have HO_31 := n1_; have BK264 := n2_; have HB := n3_; have HO293 := n4_; clear n0_ n1_ n2_ n3_ n4_; clear ho hb hg hat))
          (try simp only [← hl7_2])
          go_roundg k2
          case measure => have := HK1.out; have := HK2.out; omega
          case rel => exact ⟨(y290), (y291), (wrap64 (x33_2 + 1)), qz6, H', ⟨by have := HK1.out; have := HK2.out; omega⟩, ⟨by (try simp only [hl7_1]); (try simp only [hl7_2]); (with_reducible repeat (first | apply Kd.R_alloc | apply Kd.R_drewN | apply Kd.R_drew)); (first | exact HO_7.out | exact Kd.R_mono HO_7.out (fun _ h_ => h_.1) | exact Kd.R_mono HO_7.out (fun _ h_ => h_.2))⟩, ⟨by (try simp only [hl7_1]); (try simp only [hl7_2]); (with_reducible repeat (first | apply Kd.Q_alloc | apply Kd.Q_drewN | apply Kd.Q_drew)); (first | exact HO293.out | exact Kd.R_mono HO293.out (fun _ h_ => h_.1) | exact Kd.R_mono HO293.out (fun _ h_ => h_.2))⟩, ⟨by (try simp only [hl7_1]); (try simp only [hl7_2]); (with_reducible repeat (first | apply Kd.R_alloc | apply Kd.R_drewN | apply Kd.R_drew)); exact Kd.R_mono HO_31.out (fun _ hk => hk.2)⟩, ⟨by (try simp only [hl7_1]); (try simp only [hl7_2]); (with_reducible repeat (first | refine blk_drewN ?_ _ | refine blk_drew ?_ | refine blk_alloc ?_ _)); exact BK264.out⟩, ⟨by repeat (first | (with_reducible first | exact HB.out | apply below_alloc | apply pw_below_drewN | apply below_drew1 | refine below_set ?_ GE264.out) | exact HB.out)⟩⟩
          }
          {
          rw [if_neg c50] at H
          exact absurd H (by simp)
          }
          }
          }
          {
          rw [if_neg c47] at H
          have c47b0 : ((rd x8_1 0) == a2) = false := beq_eq_false_iff_ne.mpr c47
          have c47b1 : ((rd x8_1 0) != a2) = true := bne_iff_ne.mpr c47
          obtain ⟨y294, hy294⟩ : ∃ y_ : List Bool, y_ = (x7_2.set ((rd t277 x33_2) : Int).toNat true) := ⟨_, rfl⟩
          replace H : (if x8_2.length < 17592186044416 then (impl_without.l1 k2 a1 a2 y294 (x8_2 ++ [rd t277 x33_2]) (rd x8_1 0) t277 (t277.length : Int) (wrap64 (x33_2 + 1)) a0_0 a0_1 l0_2) else (none)) = some r := by first | (rw [hy294]; with_reducible exact H) | (have H2_ := (Option.bind_some _ _).symm.trans H; rw [hy294]; with_reducible exact H2_) | (have H2_ := (Option.bind_some _ _).symm.trans H; with_reducible exact H2_) | with_reducible exact H | (rw [hy294]; exact H) | exact H
          have Ny294 := Aside0.mk hy294
          clear hy294
          by_cases c55 : x8_2.length < 17592186044416
          {
          rw [if_pos c55] at H
          have LMc55 := Aside0.mk c55
          clear c55
          obtain ⟨y295, hy295⟩ : ∃ y_ : List Int, y_ = (x8_2 ++ [rd t277 x33_2]) := ⟨_, rfl⟩
          replace H : (impl_without.l1 k2 a1 a2 y294 y295 (rd x8_1 0) t277 (t277.length : Int) (wrap64 (x33_2 + 1)) a0_0 a0_1 l0_2) = some r := by first | (rw [hy295]; with_reducible exact H) | (have H2_ := (Option.bind_some _ _).symm.trans H; rw [hy295]; with_reducible exact H2_) | (have H2_ := (Option.bind_some _ _).symm.trans H; with_reducible exact H2_) | with_reducible exact H | (rw [hy295]; exact H) | exact H
          have Ny295 := Aside0.mk hy295
          clear hy295
          have H' := Aside0.mk H
          clear H
          have p280 : 0 ≤ (x33_2 : Int) := of_decide_eq_true qz1
          have q280 : x33_2 < (t277.length : Int) := of_decide_eq_true qz1
          obtain ⟨ad280, e280, hx280_0⟩ := Kd.at_int (Kd.R_reads' HO_31.out).2.2 x33_2 p280 q280
          cases e280
          replace p280 := eq_true p280
          replace q280 := eq_true q280
          have p281 : 0 ≤ ((rd t277 x33_2) : Int) := of_decide_eq_true qz1
          have q281 : (rd t277 x33_2) < (x7_2.length : Int) := of_decide_eq_true qz1
          obtain ⟨ad281, e281, hx281_0⟩ := Kd.at_bool (Kd.R_reads' HO_7.out).2.2 (rd t277 x33_2) p281 q281
          (try rw [← Nbq31.out] at hx281_0)
          obtain rfl : (⟨go8, 0, none⟩ : Addr) = ad281 := (by injection e281)
          (first | simp only [add_plain] at hx281_0 | simp only [add_at] at hx281_0 | simp only [Addr.add, Nat.zero_add] at hx281_0 | skip)
          replace p281 := eq_true p281
          replace q281 := eq_true q281
          have p54 : 0 ≤ ((rd t277 x33_2) : Int) := of_decide_eq_true qz1
          have q54 : ((rd t277 x33_2) : Int) < ((x7_2.length : Int) : Int) := of_decide_eq_true qz1
          obtain ⟨hx54_0, hf54_0⟩ := Kd.R_celln false HO_7.out ((rd t277 x33_2) : Int) p54 q54
          replace p54 := eq_true p54
          replace q54 := eq_true q54
          have HP56 := Kd.R_putg HO_7.out ((rd t277 x33_2) : Int) true
          go_wp2_with (first | ((with_reducible refine gate_store (t := 4) (p := 63) rfl ?_); refine store_event (t := 4) (p := 63) (v := ?vo_w57) (w1 := (wr.setCell ⟨go8, ((rd t277 x33_2) : Int).toNat, none⟩ (.bool true))) ?hg ?ho ?hn ?hr ?_; (case ho => rfl); (case hg => rfl); (case hn => rfl); (case hr => first | (go_simp; done) | (go_simp; rfl)); intro w57 hw; have hg : wr.grownBy w57 (some go8) := (by rw [hw]; exact HP56.2); have hp_ : Kd.R Kd.bool 4 w57 w.heap.size (fun _ => True) (.slice (some ⟨go8, 0, none⟩) x7_2.length co8) y294 := (by rw [hw, Ny294.out]; exact HP56.1); clear HP56; have n0_ := Aside0.mk (hp_); have n1_ := Aside0.mk (Kd.Q_over' (v := (.slice (some ⟨go8, 0, none⟩) x7_2.length co8)) (by (with_reducible repeat (first | apply Kd.Q_alloc | apply Kd.Q_drewN | apply Kd.Q_drew)); exact HO_8.out) (Kd.R_typed HO_7.out) (by decide) hg); have n2_ := Aside0.mk (Kd.R_over' (v := (.slice (some ⟨go8, 0, none⟩) x7_2.length co8)) (by (with_reducible repeat (first | apply Kd.R_alloc | apply Kd.R_drewN | apply Kd.R_drew)); exact HO_31.out) (Kd.R_typed HO_7.out) (by decide) hg); have n3_ := Aside0.mk (blk_grown (g := gb264) (o := .cells #[.int .i64 a0_0, .int .i64 a0_1, .slice A0_2 l0_2.length c0_2] 27 (0, 0)) (by (with_reducible repeat (first | refine blk_drewN ?_ _ | refine blk_drew ?_ | refine blk_alloc ?_ _)); exact BK264.out) hg (Kd.R_ne HO_7.out BK264.out (by decide))); have n4_ := Aside0.mk ((by rw [hw]; exact below_set (HB.out) GB8.out : Below w.heap.size w w57)); clear HO_7; clear HO_8; clear HO_31; clear BK264; clear HB; have HO_7 := n0_; have HO_8 := n1_; have HO_31 := n2_; have BK264 := n3_; have HB := n4_; clear n0_ n1_ n2_ n3_ n4_; clear hg hw hp_) | ((with_reducible refine gate_builtin (b := .append) (xs := #[.tmp 64, .tmp 66]) rfl ?_); at_builtin; refine Kd.Q_append (Kd.int .i64) (w0 := w) w.heap.size rfl (.tmp 64) (.tmp 66) 22 3 (.int .i64 0) 8 rfl Try.underlying22 info3 rfl (by decide) (by omega) u8 x8_2 (rd t277 x33_2) [.int .i64 (rd t277 x33_2)] (fun k_ => some k_ ≠ (.slice (some ad280) t277.length co25 : Value).ownBlock) (fun _ => False) rfl rfl ?aP (fun _ hk => hk.elim) ?aF ?aO ?aB ?aS ?aL ?_; (case aP => exact rfl); (case aB => exact qz10); (case aF => exact (fun k_ hk => Kd.fresh' (Kd.R_lt (by (with_reducible repeat (first | apply Kd.R_alloc | apply Kd.R_drewN | apply Kd.R_drew)); exact HO_31.out)) k_ hk)); (case aO => exact (by (with_reducible repeat (first | apply Kd.Q_alloc | apply Kd.Q_drewN | apply Kd.Q_drew)); exact HO_8.out)); (case aS => exact (below_size qz10)); (case aL => have := LMc55.out; omega); intro v296 w58 ho hb hg hat; rw [← Ny295.out] at ho; have n0_ := Aside0.mk (Kd.R_over' qz17 (Kd.Q_typed (by (with_reducible repeat (first | apply Kd.Q_alloc | apply Kd.Q_drewN | apply Kd.Q_drew)); exact HO_8.out)) (by decide) hg); have n1_ := Aside0.mk (Kd.R_after (ok := (fun _ => True)) (by (with_reducible repeat (first | apply Kd.R_alloc | apply Kd.R_drewN | apply Kd.R_drew)); exact Kd.R_mono HO_31.out (fun _ hk => ⟨trivial, hk⟩)) hg hat); have n2_ := Aside0.mk (blk_grown (g := gb264) (o := .cells #[.int .i64 a0_0, .int .i64 a0_1, .slice A0_2 l0_2.length c0_2] 27 (0, 0)) (by (with_reducible repeat (first | refine blk_drewN ?_ _ | refine blk_drew ?_ | refine blk_alloc ?_ _)); exact BK264.out) hg (Kd.Q_ne HO_8.out BK264.out (by decide))); have n3_ := Aside0.mk (hb); have n4_ := Aside0.mk (ho); clear HO_7; clear HO_31; clear BK264; clear HB; clear HO_8; have HO_7 := n0_; have HO_31 := n1_; have BK264 := n2_; have HB := n3_; have HO297 := n4_; clear n0_ n1_ n2_ n3_ n4_; clear ho hb hg hat))
          (try simp only [← hl7_2])
          go_roundg k2
          case measure => have := HK1.out; have := HK2.out; omega
          case rel => exact ⟨(y294), (y295), (wrap64 (x33_2 + 1)), qz6, H', ⟨by have := HK1.out; have := HK2.out; omega⟩, ⟨by (try simp only [hl7_1]); (try simp only [hl7_2]); (with_reducible repeat (first | apply Kd.R_alloc | apply Kd.R_drewN | apply Kd.R_drew)); (first | exact HO_7.out | exact Kd.R_mono HO_7.out (fun _ h_ => h_.1) | exact Kd.R_mono HO_7.out (fun _ h_ => h_.2))⟩, ⟨by (try simp only [hl7_1]); (try simp only [hl7_2]); (with_reducible repeat (first | apply Kd.Q_alloc | apply Kd.Q_drewN | apply Kd.Q_drew)); (first | exact HO297.out | exact Kd.R_mono HO297.out (fun _ h_ => h_.1) | exact Kd.R_mono HO297.out (fun _ h_ => h_.2))⟩, ⟨by (try simp only [hl7_1]); (try simp only [hl7_2]); (with_reducible repeat (first | apply Kd.R_alloc | apply Kd.R_drewN | apply Kd.R_drew)); exact Kd.R_mono HO_31.out (fun _ hk => hk.2)⟩, ⟨by (try simp only [hl7_1]); (try simp only [hl7_2]); (with_reducible repeat (first | refine blk_drewN ?_ _ | refine blk_drew ?_ | refine blk_alloc ?_ _)); exact BK264.out⟩, ⟨by repeat (first | (with_reducible first | exact HB.out | apply below_alloc | apply pw_below_drewN | apply below_drew1 | refine below_set ?_ GE264.out) | exact HB.out)⟩⟩
          }
          {
          rw [if_neg c55] at H
          exact absurd H (by simp)
          }
          }
          }
          }
          }
          {
          rw [if_neg c30] at H
          exact absurd H (by simp)
          }
          }
          {
          rw [if_neg c29] at H
          exact absurd H (by simp)
          }
          }
          {
          rw [if_neg c28] at H
          exact absurd H (by simp)
          }
          }
          {
          rw [if_neg c27] at H
          exact absurd H (by simp)
          }
          }
          {
          rw [if_neg c26] at H
          have c26b0 : decide (x33_2 < (t277.length : Int)) = false := decide_eq_false c26
          (try (have c26b0q7_1 := c26b0; simp only [hl7_1] at c26b0q7_1))
          (try (have c26b0q7_2 := c26b0; simp only [hl7_2] at c26b0q7_2))
          clear c26
          have H' := Aside0.mk H
          clear H
          go_wp2
          (try simp only [← hl7_1, ← hl7_2])
          go_roundg k2
          case measure => have := HK1.out; have := HK2.out; omega
          case rel => exact ⟨(x7_2), (x8_2), H', ⟨by have := HK1.out; have := HK2.out; omega⟩, ⟨by (try simp only [hl7_1]); (try simp only [hl7_2]); (with_reducible repeat (first | apply Kd.R_alloc | apply Kd.R_drewN | apply Kd.R_drew)); (first | exact HO_7.out | exact Kd.R_mono HO_7.out (fun _ h_ => h_.1) | exact Kd.R_mono HO_7.out (fun _ h_ => h_.2))⟩, ⟨by (try simp only [hl7_1]); (try simp only [hl7_2]); (with_reducible repeat (first | apply Kd.Q_alloc | apply Kd.Q_drewN | apply Kd.Q_drew)); exact Kd.Q_mono HO_8.out (fun _ hk => trivial)⟩, ⟨by (try simp only [hl7_1]); (try simp only [hl7_2]); (with_reducible repeat (first | refine blk_drewN ?_ _ | refine blk_drew ?_ | refine blk_alloc ?_ _)); exact BK264.out⟩, ⟨by repeat (first | (with_reducible first | exact HB.out | apply below_alloc | apply pw_below_drewN | apply below_drew1 | refine below_set ?_ GE264.out) | exact HB.out)⟩⟩
          }
      }
      {
      rw [if_neg c19] at H
      exact absurd H (by simp)
      }
      }
      {
      rw [if_neg c18] at H
      exact absurd H (by simp)
      }
      }
      {
      rw [if_neg c17] at H
      have c17b0 : decide (0 < (x8_1.length : Int)) = false := decide_eq_false c17
      (try (have c17b0q7_1 := c17b0; simp only [hl7_1] at c17b0q7_1))
      have c17b1 : decide (0 < x8_1.length) = false := decide_eq_false (by omega)
      (try (have c17b1q7_1 := c17b1; simp only [hl7_1] at c17b1q7_1))
      clear c17
      by_cases c59 : 0 ≤ a2
      {
      rw [if_pos c59] at H
      have c59b0 : decide (0 ≤ a2) = true := decide_eq_true c59
      clear c59
      by_cases c60 : a2 < (x7_1.length : Int)
      {
      rw [if_pos c60] at H
      have c60b0 : decide (a2 < (x7_1.length : Int)) = true := decide_eq_true c60
      (try (have c60b0q7_1 := c60b0; simp only [hl7_1] at c60b0q7_1))
      clear c60
      obtain rfl := Option.some.inj H
      simp only [Option.some.injEq, Prod.mk.injEq] at H
      obtain ⟨rfl⟩ := H
      obtain ⟨Ao61, co61, eo61, _⟩ := Kd.Q_slice HO_8.out
      subst eo61
      have p272 : 0 ≤ (a2 : Int) := of_decide_eq_true qz1
      have q272 : a2 < (x7_1.length : Int) := of_decide_eq_true qz1
      obtain ⟨ad272, e272, hx272_0⟩ := Kd.at_bool (Kd.R_reads' HO_7.out).2.2 a2 p272 q272
      obtain rfl : (⟨go8, 0, none⟩ : Addr) = ad272 := (by injection e272)
      (first | simp only [add_plain] at hx272_0 | simp only [add_at] at hx272_0 | simp only [Addr.add, Nat.zero_add] at hx272_0 | skip)
      replace p272 := eq_true p272
      replace q272 := eq_true q272
      go_wp2
      go_ret
      exact ⟨by first | rfl | (simp [errW_none, errW_some] <;> rfl) | (simp [*, errW_none, errW_some] <;> rfl), by repeat (first | (with_reducible first | exact HB.out | apply below_alloc | apply pw_below_drewN | apply below_drew1 | refine below_set ?_ GE264.out) | exact HB.out)⟩
      }
      {
      rw [if_neg c60] at H
      exact absurd H (by simp)
      }
      }
      {
      rw [if_neg c59] at H
      exact absurd H (by simp)
      }
      }
  }
  {
  rw [if_neg c7] at H
  exact absurd H (by simp)
  }
  }
  {
  rw [if_neg c6] at H
  exact absurd H (by simp)
  }
  }
  {
  rw [if_neg c5] at H
  exact absurd H (by simp)
  }
  }
  {
  rw [if_neg c4] at H
  exact absurd H (by simp)

  }
end Go.Proofs.Ytmjpmekckgjcpaa.PFnExactBridges
