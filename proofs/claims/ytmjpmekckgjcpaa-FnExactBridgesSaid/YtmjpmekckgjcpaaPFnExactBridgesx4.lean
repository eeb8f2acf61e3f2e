-- Made by a program of this session out of the translation. Lean checks it.
import Derived.Test.YtmjpmekckgjcpaaPFnExactBridgesx0
import Derived.Test.YtmjpmekckgjcpaaPFnExactBridgesx2
namespace Go.Proofs.Ytmjpmekckgjcpaa.PFnExactBridges
open Go.RowKit Go.Proofs.YtmjpmekckgjcpaaW.PrintWords Go.Proofs.YtmjpmekckgjcpaaW.PrintLast Go.Proofs.YtmjpmekckgjcpaaW.PrintMore
attribute [local go_sem] max2_int min2_int max_two min_two max_three min_three max_four min_four   -- for this text's walks alone
set_option linter.unusedVariables false
set_option linter.unusedSimpArgs false

/-! ### spec_l3Apart: function 99 -/
mutual
def spec_l3Apart.l0 : Nat → Int → Int → List Bool → List Int → Int → Int → Int → List Int → Option (Bool)
  | 0, _, _, _, _, _, _, _, _ => none
  | k + 1, x1, x2, x7, x8, x9, x165000, x165001, x165002 => if x9 < (x8.length : Int) then (if 0 ≤ x9 then ((spec_l1Near.f k x165000 x165001 x165002 (rd x8 x9) false).bind fun t174 => (spec_l3Apart.l1 k x1 x2 x7 x8 x9 t174 0 x165000 x165001 x165002)) else (none)) else (if 0 ≤ x2 then (if x2 < (x7.length : Int) then (some (!(rdOf false x7 x2))) else (none)) else (none))
def spec_l3Apart.l1 : Nat → Int → Int → List Bool → List Int → Int → List Int → Int → Int → Int → List Int → Option (Bool)
  | 0, _, _, _, _, _, _, _, _, _, _ => none
  | k + 1, x1, x2, x7, x8, x9, x10, x11, x165000, x165001, x165002 => if x11 < (x10.length : Int) then (if 0 ≤ x9 then (if x9 < (x8.length : Int) then (if (rd x8 x9) = x1 then (if 0 ≤ x11 then (if (rd x10 x11) = x2 then (spec_l3Apart.l1 k x1 x2 x7 x8 x9 x10 (wrap64 (x11 + 1)) x165000 x165001 x165002) else (if (rd x8 x9) = x2 then (if ((rd x10 x11) = x1) then (spec_l3Apart.l1 k x1 x2 x7 x8 x9 x10 (wrap64 (x11 + 1)) x165000 x165001 x165002) else (if 0 ≤ (rd x10 x11) then (if (rd x10 x11) < (x7.length : Int) then (if (rdOf false x7 (rd x10 x11) = true) then (spec_l3Apart.l1 k x1 x2 x7 x8 x9 x10 (wrap64 (x11 + 1)) x165000 x165001 x165002) else (if x8.length < 17592186044416 then (spec_l3Apart.l1 k x1 x2 (x7.set ((rd x10 x11) : Int).toNat true) (x8 ++ [rd x10 x11]) x9 x10 (wrap64 (x11 + 1)) x165000 x165001 x165002) else (none))) else (none)) else (none))) else (if 0 ≤ (rd x10 x11) then (if (rd x10 x11) < (x7.length : Int) then (if (rdOf false x7 (rd x10 x11) = true) then (spec_l3Apart.l1 k x1 x2 x7 x8 x9 x10 (wrap64 (x11 + 1)) x165000 x165001 x165002) else (if x8.length < 17592186044416 then (spec_l3Apart.l1 k x1 x2 (x7.set ((rd x10 x11) : Int).toNat true) (x8 ++ [rd x10 x11]) x9 x10 (wrap64 (x11 + 1)) x165000 x165001 x165002) else (none))) else (none)) else (none)))) else (none)) else (if (rd x8 x9) = x2 then (if 0 ≤ x11 then (if ((rd x10 x11) = x1) then (spec_l3Apart.l1 k x1 x2 x7 x8 x9 x10 (wrap64 (x11 + 1)) x165000 x165001 x165002) else (if 0 ≤ (rd x10 x11) then (if (rd x10 x11) < (x7.length : Int) then (if (rdOf false x7 (rd x10 x11) = true) then (spec_l3Apart.l1 k x1 x2 x7 x8 x9 x10 (wrap64 (x11 + 1)) x165000 x165001 x165002) else (if x8.length < 17592186044416 then (spec_l3Apart.l1 k x1 x2 (x7.set ((rd x10 x11) : Int).toNat true) (x8 ++ [rd x10 x11]) x9 x10 (wrap64 (x11 + 1)) x165000 x165001 x165002) else (none))) else (none)) else (none))) else (none)) else (if 0 ≤ x11 then (if 0 ≤ (rd x10 x11) then (if (rd x10 x11) < (x7.length : Int) then (if (rdOf false x7 (rd x10 x11) = true) then (spec_l3Apart.l1 k x1 x2 x7 x8 x9 x10 (wrap64 (x11 + 1)) x165000 x165001 x165002) else (if x8.length < 17592186044416 then (spec_l3Apart.l1 k x1 x2 (x7.set ((rd x10 x11) : Int).toNat true) (x8 ++ [rd x10 x11]) x9 x10 (wrap64 (x11 + 1)) x165000 x165001 x165002) else (none))) else (none)) else (none)) else (none)))) else (none)) else (none)) else (spec_l3Apart.l0 k x1 x2 x7 x8 (wrap64 (x9 + 1)) x165000 x165001 x165002)
end
def spec_l3Apart.f (k : Nat) (a0_0 : Int) (a0_1 : Int) (l0_2 : List Int) (a1 : Int) (a2 : Int) : Option (Bool) := if 0 ≤ (l0_2.length : Int) then (if ((l0_2.length : Int) : Int).toNat ≤ 281474976710656 then ((some (List.replicate ((l0_2.length : Int) : Int).toNat false : List Bool)).bind fun y165 => (if 0 ≤ a1 then (if a1 < (y165.length : Int) then (spec_l3Apart.l0 k a1 a2 (y165.set (a1 : Int).toNat true) (([a1] : List Int)) 0 a0_0 a0_1 l0_2) else (none)) else (none))) else (none)) else (none)
theorem spec_l3Apart.mono_l : ∀ k, (∀ y0 y1 y2 y3 y4 y5 y6 y7, LeO (spec_l3Apart.l0 k y0 y1 y2 y3 y4 y5 y6 y7) (spec_l3Apart.l0 (k + 1) y0 y1 y2 y3 y4 y5 y6 y7)) ∧ (∀ y0 y1 y2 y3 y4 y5 y6 y7 y8 y9, LeO (spec_l3Apart.l1 k y0 y1 y2 y3 y4 y5 y6 y7 y8 y9) (spec_l3Apart.l1 (k + 1) y0 y1 y2 y3 y4 y5 y6 y7 y8 y9))
  | 0 => ⟨fun _ _ _ _ _ _ _ _ r h => by simp [spec_l3Apart.l0] at h, fun _ _ _ _ _ _ _ _ _ _ r h => by simp [spec_l3Apart.l1] at h⟩
  | k + 1 => by
    obtain ⟨ih0, ih1⟩ := spec_l3Apart.mono_l k
    refine ⟨?_, ?_⟩
    {
    intro y0 y1 y2 y3 y4 y5 y6 y7
    unfold spec_l3Apart.l0
    repeat' first
    | (with_reducible exact ih0 _ _ _ _ _ _ _ _)
    | (with_reducible exact ih1 _ _ _ _ _ _ _ _ _ _)
    | (with_reducible exact spec_l1Near.mono _ _ _ _ _ _)
    | (with_reducible exact LeO.refl _)
    | (with_reducible exact LeO.none _)
    | (with_reducible refine LeO.ite ?_ ?_)
    | (with_reducible refine LeO.bind ?_ (fun _ => ?_))
    | exact ih0 _ _ _ _ _ _ _ _
    | exact ih1 _ _ _ _ _ _ _ _ _ _
    | exact spec_l1Near.mono _ _ _ _ _ _
    | exact LeO.none _
    | refine LeO.ite ?_ ?_
    | refine LeO.bind ?_ (fun _ => ?_)
    }
    {
    intro y0 y1 y2 y3 y4 y5 y6 y7 y8 y9
    unfold spec_l3Apart.l1
    repeat' first
    | (with_reducible exact ih0 _ _ _ _ _ _ _ _)
    | (with_reducible exact ih1 _ _ _ _ _ _ _ _ _ _)
    | (with_reducible exact spec_l1Near.mono _ _ _ _ _ _)
    | (with_reducible exact LeO.refl _)
    | (with_reducible exact LeO.none _)
    | (with_reducible refine LeO.ite ?_ ?_)
    | (with_reducible refine LeO.bind ?_ (fun _ => ?_))
    | exact ih0 _ _ _ _ _ _ _ _
    | exact ih1 _ _ _ _ _ _ _ _ _ _
    | exact spec_l1Near.mono _ _ _ _ _ _
    | exact LeO.none _
    | refine LeO.ite ?_ ?_
    | refine LeO.bind ?_ (fun _ => ?_)
    }
theorem spec_l3Apart.mono : ∀ a0 a1 a2 a3 a4 k, LeO (spec_l3Apart.f k a0 a1 a2 a3 a4) (spec_l3Apart.f (k + 1) a0 a1 a2 a3 a4) := by
  intro a0 a1 a2 a3 a4 k
  obtain ⟨ih0, ih1⟩ := spec_l3Apart.mono_l k
  unfold spec_l3Apart.f
  repeat' first
      | (with_reducible exact ih0 _ _ _ _ _ _ _ _)
      | (with_reducible exact ih1 _ _ _ _ _ _ _ _ _ _)
      | (with_reducible exact spec_l1Near.mono _ _ _ _ _ _)
      | (with_reducible exact LeO.refl _)
      | (with_reducible exact LeO.none _)
      | (with_reducible refine LeO.ite ?_ ?_)
      | (with_reducible refine LeO.bind ?_ (fun _ => ?_))
      | exact ih0 _ _ _ _ _ _ _ _
      | exact ih1 _ _ _ _ _ _ _ _ _ _
      | exact spec_l1Near.mono _ _ _ _ _ _
      | exact LeO.none _
      | refine LeO.ite ?_ ?_
      | refine LeO.bind ?_ (fun _ => ?_)
set_option maxHeartbeats 8000000 in
set_option maxRecDepth 100000 in
theorem spec_l3Apart.calls (k : Nat) (a0_0 : Int) (a0_1 : Int) (A0_2 : Option Addr) (c0_2 : Nat) (l0_2 : List Int) (a1 : Int) (a2 : Int) (r : Bool) (w : World) (hr0_2 : Kd.C (Kd.int .i64) w A0_2 l0_2.length l0_2) (hc0_2 : l0_2.length ≤ c0_2) (h : spec_l3Apart.f k a0_0 a0_1 l0_2 a1 a2 = some r) :
    Calls Try.prog 99 #[.agg #[.int .i64 a0_0, .int .i64 a0_1, .slice A0_2 l0_2.length c0_2], .int .i64 a1, .int .i64 a2] w fun e w' => e = .returned (.bool r) ∧ Below w.heap.size w w' := by
  have hu27 := Try.underlying27
  have HR0_2 := Aside0.mk hr0_2
  have HC0_2 := Aside0.mk hc0_2
  clear hr0_2 hc0_2
  have HB := Aside0.mk (Below.refl w.heap.size w)
  have H : (if 0 ≤ (l0_2.length : Int) then (if ((l0_2.length : Int) : Int).toNat ≤ 281474976710656 then ((some (List.replicate ((l0_2.length : Int) : Int).toNat false : List Bool)).bind fun y165 => (if 0 ≤ a1 then (if a1 < (y165.length : Int) then (spec_l3Apart.l0 k a1 a2 (y165.set (a1 : Int).toNat true) (([a1] : List Int)) 0 a0_0 a0_1 l0_2) else (none)) else (none))) else (none)) else (none)) = some r := h
  clear h
  by_cases c4 : 0 ≤ (l0_2.length : Int)
  {
  rw [if_pos c4] at H
  have c4b0 := eq_true c4
  have c4b1 : decide (0 ≤ (l0_2.length : Int)) = true := decide_eq_true c4
  clear c4
  by_cases c5 : ((l0_2.length : Int) : Int).toNat ≤ 281474976710656
  {
  rw [if_pos c5] at H
  have c5b0 := eq_true c5
  have c5b1 : decide (((l0_2.length : Int) : Int).toNat ≤ 281474976710656) = true := decide_eq_true c5
  clear c5
  obtain ⟨y165, hy165⟩ : ∃ y_ : List Bool, y_ = (List.replicate ((l0_2.length : Int) : Int).toNat false) := ⟨_, rfl⟩
  replace H : (if 0 ≤ a1 then (if a1 < (y165.length : Int) then (spec_l3Apart.l0 k a1 a2 (y165.set (a1 : Int).toNat true) (([a1] : List Int)) 0 a0_0 a0_1 l0_2) else (none)) else (none)) = some r := by first | (rw [hy165]; with_reducible exact H) | (have H2_ := (Option.bind_some _ _).symm.trans H; rw [hy165]; with_reducible exact H2_) | (have H2_ := (Option.bind_some _ _).symm.trans H; with_reducible exact H2_) | with_reducible exact H | (rw [hy165]; exact H) | exact H
  have Ny165 := Aside0.mk hy165
  clear hy165
  by_cases c6 : 0 ≤ a1
  {
  rw [if_pos c6] at H
  have c6b0 : decide (0 ≤ a1) = true := decide_eq_true c6
  clear c6
  by_cases c7 : a1 < (y165.length : Int)
  {
  rw [if_pos c7] at H
  have c7b0 : decide (a1 < (y165.length : Int)) = true := decide_eq_true c7
  clear c7
  obtain ⟨y168, hy168⟩ : ∃ y_ : List Bool, y_ = (y165.set (a1 : Int).toNat true) := ⟨_, rfl⟩
  replace H : (spec_l3Apart.l0 k a1 a2 y168 (([a1] : List Int)) 0 a0_0 a0_1 l0_2) = some r := by first | (rw [hy168]; with_reducible exact H) | (have H2_ := (Option.bind_some _ _).symm.trans H; rw [hy168]; with_reducible exact H2_) | (have H2_ := (Option.bind_some _ _).symm.trans H; with_reducible exact H2_) | with_reducible exact H | (rw [hy168]; exact H) | exact H
  have Ny168 := Aside0.mk hy168
  clear hy168
  obtain ⟨y169, hy169⟩ : ∃ y_ : List Int, y_ = (([a1] : List Int)) := ⟨_, rfl⟩
  replace H : (spec_l3Apart.l0 k a1 a2 y168 y169 0 a0_0 a0_1 l0_2) = some r := by first | (rw [hy169]; with_reducible exact H) | (have H2_ := (Option.bind_some _ _).symm.trans H; rw [hy169]; with_reducible exact H2_) | (have H2_ := (Option.bind_some _ _).symm.trans H; with_reducible exact H2_) | with_reducible exact H | (rw [hy169]; exact H) | exact H
  have Ny169 := Aside0.mk hy169
  clear hy169
  have H' := Aside0.mk H
  clear H
  go_enter Try.func99, Try.ntmps99
  go_wp2_with (first | ((with_reducible refine gate_dst (N := 3) rfl ?_); refine box_event ?hg (N := 3) ?hd (cs := #[.int .i64 a0_0, .int .i64 a0_1, .slice A0_2 l0_2.length c0_2]) (t := 27) ?hr ?_; (case hd => rfl); (case hg => rfl); (case hr => first | (go_simp; done) | (go_simp; rfl)); intro gb164 hg w9 hbox hb; have n0_ := Aside0.mk (below_step qz2 hb); have n1_ := Aside0.mk (hbox); have n2_ := Aside0.mk ((by rw [hg]; exact (below_size qz2) : w.heap.size ≤ gb164)); have n3_ := Aside0.mk ((by rw [hg]; exact (below_size qz2) : w.heap.size ≤ gb164)); clear HB; have HB := n0_; have BK164 := n1_; have GW164 := n2_; have GE164 := n3_; clear n0_ n1_ n2_ n3_; clear hb hbox hg; have hcz10_0 : w9.cell? ⟨gb164, 0, none⟩ = some (.int .i64 a0_0) := (blk_cell BK164.out 0).trans rfl; have hcz10_1 : w9.cell? ⟨gb164, 1, none⟩ = some (.int .i64 a0_1) := (blk_cell BK164.out 1).trans rfl; have hcz10_2 : w9.cell? ⟨gb164, 2, none⟩ = some (.slice A0_2 l0_2.length c0_2) := (blk_cell BK164.out 2).trans rfl; have hfz10_0 := blk_frozen BK164.out 0; have hfz10_1 := blk_frozen BK164.out 1; have hfz10_2 := blk_frozen BK164.out 2) | ((with_reducible refine gate_dst (N := 16) rfl ?_); refine Kd.R_make Kd.bool _ 4 rfl (N := 16) rfl 64 _ _ rfl (l0_2.length : Int) rfl rfl Try.underlying64 (.bool false) 1 info4 rfl (by decide) (by omega) false (ok := fun _ => True) (okp := fun _ => True) rfl (fun _ hk => hk) trivial (of_decide_eq_true qz1) (Nat.le_trans (Nat.mul_le_mul_right _ (of_decide_eq_true qz1 : (l0_2.length : Int).toNat ≤ 281474976710656)) (by omega)) (Below.refl _ _) (Nat.le_refl _) ?_; intro v166 w11 ho12 hb hg_ hnew_; clear hg_ hnew_; (first | rw [← Ny165.out] at ho12 | (simp only [Int.reduceToNat] at ho12; rw [← Ny165.out] at ho12)); have n0_ := Aside0.mk (Kd.R_lower ho12 (below_size qz8)); have n1_ := Aside0.mk (blk_below (g := gb164) (o := .cells #[.int .i64 a0_0, .int .i64 a0_1, .slice A0_2 l0_2.length c0_2] 27 (0, 0)) (by (with_reducible repeat (first | refine blk_drewN ?_ _ | refine blk_drew ?_ | refine blk_alloc ?_ _)); exact BK164.out) hb); have n2_ := Aside0.mk (below_step qz8 hb); clear BK164; clear HB; have HO167 := n0_; have BK164 := n1_; have HB := n2_; clear n0_ n1_ n2_; clear hb ho12; have p8 : 0 ≤ (a1 : Int) := of_decide_eq_true qz1; have q8 : (a1 : Int) < ((y165.length : Int) : Int) := of_decide_eq_true qz1; obtain ⟨go8, co8, eo8, gb8, gl8, cl8, HG8⟩ := Kd.R_form HO167.out (by omega); (first | cases eo8 | (injection eo8 with ea_ en_ ec_; (first | subst ea_ | (injection ea_ with ea_; subst ea_)); subst ec_; clear en_)); have GB8 := Aside0.mk gb8; have GG8 := Aside0.mk HG8; clear gb8 gl8 HG8; obtain ⟨hx8_0, hf8_0⟩ := Kd.R_celln false HO167.out (a1 : Int) p8 q8; replace p8 := eq_true p8; replace q8 := eq_true q8; obtain ⟨hy13_, hz13_⟩ := Kd.R_celln false HO167.out (a1 : Int) (of_decide_eq_true qz1) (of_decide_eq_true qz1); have HP13 := Kd.R_putg HO167.out (a1 : Int) true) | ((with_reducible refine gate_store (t := 4) (p := 19) rfl ?_); refine store_event (t := 4) (p := 19) (v := ?vo_w14) (w1 := (w11.setCell ⟨go8, (a1 : Int).toNat, none⟩ (.bool true))) ?hg ?ho ?hn ?hr ?_; (case ho => rfl); (case hg => rfl); (case hn => rfl); (case hr => first | (go_simp; done) | (go_simp; rfl)); intro w14 hw; have hg : w11.grownBy w14 (some go8) := (by rw [hw]; exact HP13.2); have hp_ : Kd.R Kd.bool 4 w14 w.heap.size (fun _ => True) (.slice (some ⟨go8, 0, none⟩) y165.length co8) y168 := (by rw [hw, Ny168.out]; exact HP13.1); clear HP13; have n0_ := Aside0.mk (blk_grown (g := gb164) (o := .cells #[.int .i64 a0_0, .int .i64 a0_1, .slice A0_2 l0_2.length c0_2] 27 (0, 0)) (by (with_reducible repeat (first | refine blk_drewN ?_ _ | refine blk_drew ?_ | refine blk_alloc ?_ _)); exact BK164.out) hg (Kd.R_ne HO167.out BK164.out (by decide))); have n1_ := Aside0.mk (hp_); have n2_ := Aside0.mk ((by rw [hw]; exact below_set (HB.out) GB8.out : Below w.heap.size w w14)); clear BK164; clear HO167; clear HB; have BK164 := n0_; have HO167 := n1_; have HB := n2_; clear n0_ n1_ n2_; clear hg hw hp_) | ((with_reducible refine gate_dst (N := 21) rfl ?_); refine Kd.R_lit (Kd.int .i64) _ 3 ?hg (N := 21) ?hd (xs := ([a1] : List Int)) (inner := [.int .i64 a1]) (ok := fun _ => True) (okp := fun _ => True) ?hr ?hp (fun _ hk => hk) trivial (Below.refl _ _) (Nat.le_refl _) (by simp) ?_; (case hd => rfl); (case hg => rfl); (case hr => first | (go_simp; done) | (go_simp; rfl)); (case hp => exact (Reps.one (show Kd.M (Kd.int .i64) _ _ _ a1 [.int .i64 a1] from rfl) (Reps.none _ _))); intro v170 w15 ho16 hb hg_ hnew_; clear hg_ hnew_; (first | rw [← Ny169.out] at ho16 | (simp only [Int.reduceToNat] at ho16; rw [← Ny169.out] at ho16)); have n0_ := Aside0.mk (Kd.R_below (by (with_reducible repeat (first | apply Kd.R_alloc | apply Kd.R_drewN | apply Kd.R_drew)); exact HO167.out) hb); have n1_ := Aside0.mk (Kd.R_lower ho16 (below_size qz8)); have n2_ := Aside0.mk (blk_below (g := gb164) (o := .cells #[.int .i64 a0_0, .int .i64 a0_1, .slice A0_2 l0_2.length c0_2] 27 (0, 0)) (by (with_reducible repeat (first | refine blk_drewN ?_ _ | refine blk_drew ?_ | refine blk_alloc ?_ _)); exact BK164.out) hb); have n3_ := Aside0.mk (below_step qz8 hb); clear HO167; clear BK164; clear HB; have HO167 := n0_; have HO171 := n1_; have BK164 := n2_; have HB := n3_; clear n0_ n1_ n2_ n3_; clear hb ho16))
  go_loopg [8, 9] k (fun kq v8 v9 w' => ∃ (x7_1 : List Bool) (x8_1 : List Int) (x9_1 : Int), v9 = .int .i64 x9_1 ∧ Aside0 (spec_l3Apart.l0 kq a1 a2 x7_1 x8_1 x9_1 a0_0 a0_1 l0_2 = some r) ∧ Aside0 (kq ≤ k) ∧ Aside0 (Kd.R Kd.bool 4 w' w.heap.size (fun _ => True) (.slice (some ⟨go8, 0, none⟩) y165.length co8) x7_1) ∧ Aside0 (Kd.R (Kd.int .i64) 3 w' w.heap.size (fun _ => True) v8 x8_1) ∧ Aside0 (w'.heap[gb164]? = some (.cells #[.int .i64 a0_0, .int .i64 a0_1, (.slice A0_2 l0_2.length c0_2)] 27 (0, 0))) ∧ Aside0 (Below w.heap.size w w'))
  case atStart => exact ⟨(y168), (y169), (0), qz6, H', ⟨Nat.le_refl _⟩, ⟨by (with_reducible repeat (first | apply Kd.R_alloc | apply Kd.R_drewN | apply Kd.R_drew)); exact HO167.out⟩, ⟨by (with_reducible repeat (first | apply Kd.R_alloc | apply Kd.R_drewN | apply Kd.R_drew)); exact HO171.out⟩, ⟨by (with_reducible repeat (first | refine blk_drewN ?_ _ | refine blk_drew ?_ | refine blk_alloc ?_ _)); exact BK164.out⟩, ⟨by repeat (first | (with_reducible first | exact HB.out | apply below_alloc | apply pw_below_drewN | apply below_drew1 | refine below_set ?_ GE164.out) | exact HB.out)⟩⟩
  case round =>
    clear H'
    try clear p2
    try clear c4
    try clear c4b0
    try clear c4b1
    try clear c5
    try clear c5b0
    try clear c5b1
    try clear c6
    try clear c6b0
    try clear c7
    try clear c7b0
    try clear p8
    try clear q8
    try clear hx8
    try clear hf8
    try clear c9
    try clear hcz10_0
    try clear hcz10_1
    try clear hcz10_2
    try clear hfz10_0
    try clear hfz10_1
    try clear hfz10_2
    try clear hx8_0
    try clear p8
    try clear q8
    obtain ⟨x7_1, x8_1, x9_1, rfl, HA, HK1, HO_7, HO_8, BK164, HB⟩ := hrel
    have hl7_1 := (Kd.R_reads' HO_7.out).1
    rw [hl7_1] at HO_7
    (try simp only [hl7_1])
    (try simp only [hl7_1] at BK164)
    (try simp only [hl7_1] at HO_8)
    cases gk with
    | zero => exact absurd HA.out (by simp [spec_l3Apart.l0])
    | succ k1 =>
      have H := HA.out
      clear HA
      simp only [spec_l3Apart.l0] at H
      by_cases c17 : x9_1 < (x8_1.length : Int)
      {
      rw [if_pos c17] at H
      have c17b0 : decide (x9_1 < (x8_1.length : Int)) = true := decide_eq_true c17
      (try (have c17b0q7_1 := c17b0; simp only [hl7_1] at c17b0q7_1))
      clear c17
      by_cases c18 : 0 ≤ x9_1
      {
      rw [if_pos c18] at H
      have c18b0 : decide (0 ≤ x9_1) = true := decide_eq_true c18
      clear c18
      replace H := Option.bind_eq_some_iff.mp H
      obtain ⟨t174, A190, H⟩ := H
      replace H : (spec_l3Apart.l1 k1 a1 a2 x7_1 x8_1 x9_1 t174 0 a0_0 a0_1 l0_2) = some r := H
      have A19 := Aside0.mk A190
      clear A190
      have H' := Aside0.mk H
      clear H
      obtain ⟨Ao20, co20, eo20⟩ := Kd.R_slice HO_8.out
      subst eo20
      try go_wp2
      have n0_ := Aside0.mk (Kd.R_drew HO_7.out)
      have n1_ := Aside0.mk (Kd.R_drew HO_8.out)
      have n2_ := Aside0.mk (blk_drew BK164.out)
      have n3_ := Aside0.mk (below_drew1 HB.out)
      clear HO_7
      clear HO_8
      clear BK164
      clear HB
      have HO_7 := n0_
      have HO_8 := n1_
      have BK164 := n2_
      have HB := n3_
      clear n0_ n1_ n2_ n3_
      have p173 : 0 ≤ (x9_1 : Int) := of_decide_eq_true qz1
      have q173 : x9_1 < (x8_1.length : Int) := of_decide_eq_true qz1
      obtain ⟨ad173, e173, hx173_0⟩ := Kd.at_int (Kd.R_reads' HO_8.out).2.2 x9_1 p173 q173
      cases e173
      replace p173 := eq_true p173
      replace q173 := eq_true q173
      refine start_ (n := 7) (S := fun w' => w'.cell? ⟨gb164, 0, none⟩ = some (.int .i64 a0_0) ∧ w'.cell? ⟨gb164, 1, none⟩ = some (.int .i64 a0_1) ∧ w'.cell? ⟨gb164, 2, none⟩ = some (.slice A0_2 l0_2.length c0_2) ∧ w'.cell? (ad173.add (x9_1).toNat) = some (.int .i64 (rd x8_1 x9_1))) (ds := []) #[false, false, false, false, false, false, false] (by kernel_rfl) rfl rfl ⟨(blk_cell BK164.out 0).trans rfl, (blk_cell BK164.out 1).trans rfl, (blk_cell BK164.out 2).trans rfl, hx173_0⟩ (fun hHeld => ?_)
      generalize wr.drew = w21 at HO_7 HO_8 BK164 HB hx173_0 hHeld ⊢
      refine pure_ (i := 1) (N := some 29) (v := ?_) (a' := ?_) #[false, true, false, false, false, false, false] rfl rfl (by kernel_rfl) qzd (Or.inl ⟨by rfl, ?_⟩) ?_ ?_
      rotate_left
      {
      intro w'
      go_simp
      with_reducible rfl
      }
      rotate_left
      {
      simp only [qzs]
      rfl
      }
      refine pure_ (i := 2) (N := some 30) (v := ?_) (a' := ?_) #[false, true, true, false, false, false, false] rfl rfl (by kernel_rfl) qzd (Or.inl ⟨by rfl, ?_⟩) ?_ ?_
      rotate_left
      {
      intro w'
      go_simp
      with_reducible rfl
      }
      rotate_left
      {
      simp only [qzs]
      rfl
      }
      refine pure_ (i := 3) (N := some 31) (v := ?_) (a' := ?_) #[false, true, true, true, false, false, false] rfl rfl (by kernel_rfl) qzd (Or.inl ⟨by rfl, ?_⟩) ?_ ?_
      rotate_left
      {
      intro w'
      go_simp
      with_reducible rfl
      }
      rotate_left
      {
      simp only [qzs]
      rfl
      }
      refine take_ (i := 0) (N := some 28) (v := ?_) (a' := ?_) #[true, true, true, true, false, false, false] rfl rfl (by kernel_rfl) qzd (Or.inl ⟨by rfl, ?_⟩) hHeld ?_ ?_
      rotate_left
      {
      rintro w' ⟨s0, s1, s2, s3⟩
      go_simp
      with_reducible rfl
      }
      rotate_left
      {
      simp only [qzs]
      rfl
      }
      refine take_ (i := 4) (N := some 32) (v := ?_) (a' := ?_) #[true, true, true, true, true, false, false] rfl rfl (by kernel_rfl) qzd (Or.inl ⟨by rfl, ?_⟩) hHeld ?_ ?_
      rotate_left
      {
      rintro w' ⟨s0, s1, s2, s3⟩
      go_simp
      with_reducible rfl
      }
      rotate_left
      {
      simp only [qzs]
      rfl
      }
      refine one_ (i := 5) (N := some 33) #[true, true, true, true, true, true, false] rfl rfl (by kernel_rfl) (by decide) (fun K hK => ?_)
      refine goes_ Try.func81 (by kernel_rfl) rfl #[.agg #[.int .i64 a0_0, .int .i64 a0_1, .slice A0_2 l0_2.length c0_2], .int .i64 (rd x8_1 x9_1), .bool false] (by rfl) rfl rfl qz3 ?_
      with_reducible refine (spec_l1Near.calls k1 a0_0 a0_1 _ _ l0_2 (rd x8_1 x9_1) false t174 _ ?side1 ?side2 A19.out).mono ?_
      (case side1 => repeat (first | exact (Kd.C_below HR0_2.out HB.out) | (with_reducible refine Kd.C_alloc ?_ _) | (with_reducible refine Kd.C_drewN ?_ _) | (with_reducible refine Kd.C_drew ?_)))
      (case side2 => exact HC0_2.out)
      rintro e w22 ⟨v175, rfl, ho0, hb⟩
      have HS3_ := (hb.cell (World.block_lt_of_cell? _ _ (hHeld.2.2.2))).trans (hHeld.2.2.2)
      refine ⟨_, rfl, ?_⟩
      have n0_ := Aside0.mk (Kd.R_below qz17 hb)
      have n1_ := Aside0.mk (Kd.R_elder' qz12 (Kd.R_base ho0) hb)
      have n2_ := Aside0.mk (Kd.R_lower (Kd.R_new' ho0 (Kd.R_lt qz12)) (below_size qz8))
      have n3_ := Aside0.mk (blk_below (g := gb164) (o := .cells #[.int .i64 a0_0, .int .i64 a0_1, .slice A0_2 l0_2.length c0_2] 27 (0, 0)) (by (with_reducible repeat (first | refine blk_drewN ?_ _ | refine blk_drew ?_ | refine blk_alloc ?_ _)); exact BK164.out) hb)
      have n4_ := Aside0.mk (below_step qz8 hb)
      clear HO_7
      clear HO_8
      clear BK164
      clear HB
      have HO_7 := n0_
      have HO_8 := n1_
      have HO176 := n2_
      have BK164 := n3_
      have HB := n4_
      clear n0_ n1_ n2_ n3_ n4_
      (try clear hb)
      (try clear hb2)
      (try clear hk)
      (try clear hi)
      (try clear ho0)
      refine hK.out _ _ ⟨(blk_cell BK164.out 0).trans rfl, (blk_cell BK164.out 1).trans rfl, (blk_cell BK164.out 2).trans rfl, HS3_⟩ (fun hHeld => ?_)
      clear hK K
      refine norm_ (a' := ?_) ?_ ?_
      rotate_left
      {
      show Act.put _ (some 33) _ = _
      simp only [qzs]
      rfl
      }
      refine pure_ (i := 6) (N := some 10) (v := ?_) (a' := ?_) #[true, true, true, true, true, true, true] rfl rfl (by kernel_rfl) qzd (Or.inl ⟨by rfl, ?_⟩) ?_ ?_
      rotate_left
      {
      intro w'
      go_simp
      with_reducible rfl
      }
      rotate_left
      {
      simp only [qzs]
      rfl
      }
      refine done_ (by kernel_rfl) ?_
      try go_wp2
      go_loopg [8, 11] k1 (fun kq v8 v11 w' => ∃ (x7_2 : List Bool) (x8_2 : List Int) (x11_2 : Int), v11 = .int .i64 x11_2 ∧ Aside0 (spec_l3Apart.l1 kq a1 a2 x7_2 x8_2 x9_1 t174 x11_2 a0_0 a0_1 l0_2 = some r) ∧ Aside0 (kq ≤ k1) ∧ Aside0 (Kd.R Kd.bool 4 w' w.heap.size (fun _ => True) (.slice (some ⟨go8, 0, none⟩) x7_1.length co8) x7_2) ∧ Aside0 (Kd.R (Kd.int .i64) 3 w' w.heap.size (fun k_ => some k_ ≠ (v175 : Value).ownBlock) v8 x8_2) ∧ Aside0 (Kd.R (Kd.int .i64) 3 w' w.heap.size (fun k_ => some k_ ≠ (v8 : Value).ownBlock) v175 t174) ∧ Aside0 (w'.heap[gb164]? = some (.cells #[.int .i64 a0_0, .int .i64 a0_1, (.slice A0_2 l0_2.length c0_2)] 27 (0, 0))) ∧ Aside0 (Below w.heap.size w w'))
      case atStart => exact ⟨(x7_1), (x8_1), (0), qz6, H', ⟨Nat.le_refl _⟩, ⟨by (try simp only [hl7_1]); (with_reducible repeat (first | apply Kd.R_alloc | apply Kd.R_drewN | apply Kd.R_drew)); exact HO_7.out⟩, ⟨by (try simp only [hl7_1]); (with_reducible repeat (first | apply Kd.R_alloc | apply Kd.R_drewN | apply Kd.R_drew)); exact Kd.R_mono HO_8.out (fun _ hk => hk.2)⟩, ⟨by (try simp only [hl7_1]); (with_reducible repeat (first | apply Kd.R_alloc | apply Kd.R_drewN | apply Kd.R_drew)); exact Kd.R_mono HO176.out (fun _ hk => hk.2)⟩, ⟨by (try simp only [hl7_1]); (with_reducible repeat (first | refine blk_drewN ?_ _ | refine blk_drew ?_ | refine blk_alloc ?_ _)); exact BK164.out⟩, ⟨by repeat (first | (with_reducible first | exact HB.out | apply below_alloc | apply pw_below_drewN | apply below_drew1 | refine below_set ?_ GE164.out) | exact HB.out)⟩⟩
      case round =>
        clear H'
        try clear c1
        try clear p1
        try clear q1
        try clear hx1
        try clear p2
        try clear c4
        try clear c4b0
        try clear c4b1
        try clear c5
        try clear c5b0
        try clear c5b1
        try clear c6
        try clear c6b0
        try clear c7
        try clear c7b0
        try clear c8
        try clear p8
        try clear q8
        try clear hx8
        try clear hf8
        try clear c9
        try clear c17
        try clear c17b0
        try clear p17
        try clear q17
        try clear hx17
        try clear c18
        try clear c18b0
        try clear hcz10_0
        try clear hcz10_1
        try clear hcz10_2
        try clear hfz10_0
        try clear hfz10_1
        try clear hfz10_2
        try clear hx173_0
        try clear hx8_0
        try clear p173
        try clear p2
        try clear p8
        try clear q173
        try clear q8
        obtain ⟨x7_2, x8_2, x11_2, rfl, HA, HK2, HO_7, HO_8, HO_10, BK164, HB⟩ := hrel
        have hl7_2 := (Kd.R_reads' HO_7.out).1
        rw [hl7_2] at HO_7
        (try simp only [hl7_2])
        (try simp only [hl7_2] at BK164)
        (try simp only [hl7_2] at HO_8)
        (try simp only [hl7_2] at HO_10)
        cases gk with
        | zero => exact absurd HA.out (by simp [spec_l3Apart.l1])
        | succ k2 =>
          have H := HA.out
          clear HA
          simp only [spec_l3Apart.l1] at H
          by_cases c23 : x11_2 < (t174.length : Int)
          {
          rw [if_pos c23] at H
          have c23b0 : decide (x11_2 < (t174.length : Int)) = true := decide_eq_true c23
          (try (have c23b0q7_1 := c23b0; simp only [hl7_1] at c23b0q7_1))
          (try (have c23b0q7_2 := c23b0; simp only [hl7_2] at c23b0q7_2))
          clear c23
          by_cases c24 : 0 ≤ x9_1
          {
          rw [if_pos c24] at H
          have c24b0 : decide (0 ≤ x9_1) = true := decide_eq_true c24
          clear c24
          by_cases c25 : x9_1 < (x8_2.length : Int)
          {
          rw [if_pos c25] at H
          have c25b0 : decide (x9_1 < (x8_2.length : Int)) = true := decide_eq_true c25
          (try (have c25b0q7_1 := c25b0; simp only [hl7_1] at c25b0q7_1))
          (try (have c25b0q7_2 := c25b0; simp only [hl7_2] at c25b0q7_2))
          clear c25
          by_cases c26 : (rd x8_2 x9_1) = a1
          {
          rw [if_pos c26] at H
          have c26b0 : ((rd x8_2 x9_1) == a1) = true := beq_iff_eq.mpr c26
          have c26b1 : ((rd x8_2 x9_1) != a1) = false := bne_eq_false_iff_eq.mpr c26
          clear c26
          by_cases c27 : 0 ≤ x11_2
          {
          rw [if_pos c27] at H
          have c27b0 : decide (0 ≤ x11_2) = true := decide_eq_true c27
          clear c27
          by_cases c28 : (rd t174 x11_2) = a2
          {
          rw [if_pos c28] at H
          have c28b0 : ((rd t174 x11_2) == a2) = true := beq_iff_eq.mpr c28
          have c28b1 : ((rd t174 x11_2) != a2) = false := bne_eq_false_iff_eq.mpr c28
          clear c28
          have H' := Aside0.mk H
          clear H
          obtain ⟨Ao29, co29, eo29⟩ := Kd.R_slice HO_10.out
          subst eo29
          obtain ⟨Ao30, co30, eo30⟩ := Kd.R_slice HO_8.out
          subst eo30
          have p177 : 0 ≤ (x9_1 : Int) := of_decide_eq_true qz1
          have q177 : x9_1 < (x8_2.length : Int) := of_decide_eq_true qz1
          obtain ⟨ad177, e177, hx177_0⟩ := Kd.at_int (Kd.R_reads' HO_8.out).2.2 x9_1 p177 q177
          cases e177
          replace p177 := eq_true p177
          replace q177 := eq_true q177
          have p178 : 0 ≤ (x11_2 : Int) := of_decide_eq_true qz1
          have q178 : x11_2 < (t174.length : Int) := of_decide_eq_true qz1
          obtain ⟨ad178, e178, hx178_0⟩ := Kd.at_int (Kd.R_reads' HO_10.out).2.2 x11_2 p178 q178
          cases e178
          replace p178 := eq_true p178
          replace q178 := eq_true q178
          go_wp2
          (try simp only [← hl7_2])
          go_roundg k2
          case measure => have := HK1.out; have := HK2.out; omega
          case rel => exact ⟨(x7_2), (x8_2), (wrap64 (x11_2 + 1)), qz6, H', ⟨by have := HK1.out; have := HK2.out; omega⟩, ⟨by (try simp only [hl7_1]); (try simp only [hl7_2]); (with_reducible repeat (first | apply Kd.R_alloc | apply Kd.R_drewN | apply Kd.R_drew)); (first | exact HO_7.out | exact Kd.R_mono HO_7.out (fun _ h_ => h_.1) | exact Kd.R_mono HO_7.out (fun _ h_ => h_.2))⟩, ⟨by (try simp only [hl7_1]); (try simp only [hl7_2]); (with_reducible repeat (first | apply Kd.R_alloc | apply Kd.R_drewN | apply Kd.R_drew)); (first | exact HO_8.out | exact Kd.R_mono HO_8.out (fun _ h_ => h_.1) | exact Kd.R_mono HO_8.out (fun _ h_ => h_.2))⟩, ⟨by (try simp only [hl7_1]); (try simp only [hl7_2]); (with_reducible repeat (first | apply Kd.R_alloc | apply Kd.R_drewN | apply Kd.R_drew)); (first | exact HO_10.out | exact Kd.R_mono HO_10.out (fun _ h_ => h_.1) | exact Kd.R_mono HO_10.out (fun _ h_ => h_.2))⟩, ⟨by (try simp only [hl7_1]); (try simp only [hl7_2]); (with_reducible repeat (first | refine blk_drewN ?_ _ | refine blk_drew ?_ | refine blk_alloc ?_ _)); exact BK164.out⟩, ⟨by repeat (first | (with_reducible first | exact HB.out | apply below_alloc | apply pw_below_drewN | apply below_drew1 | refine below_set ?_ GE164.out) | exact HB.out)⟩⟩
          }
          {
          rw [if_neg c28] at H
          have c28b0 : ((rd t174 x11_2) == a2) = false := beq_eq_false_iff_ne.mpr c28
          have c28b1 : ((rd t174 x11_2) != a2) = true := bne_iff_ne.mpr c28
          by_cases c31 : (rd x8_2 x9_1) = a2
          {
          rw [if_pos c31] at H
          have c31b0 : ((rd x8_2 x9_1) == a2) = true := beq_iff_eq.mpr c31
          have c31b1 : ((rd x8_2 x9_1) != a2) = false := bne_eq_false_iff_eq.mpr c31
          clear c31
          by_cases c32 : ((rd t174 x11_2) = a1)
          {
          rw [if_pos c32] at H
          have c32b0 : ((rd t174 x11_2) == a1) = true := beq_iff_eq.mpr c32
          have c32b1 : ((rd t174 x11_2) != a1) = false := bne_eq_false_iff_eq.mpr c32
          clear c32
          have H' := Aside0.mk H
          clear H
          obtain ⟨Ao33, co33, eo33⟩ := Kd.R_slice HO_10.out
          subst eo33
          obtain ⟨Ao34, co34, eo34⟩ := Kd.R_slice HO_8.out
          subst eo34
          have p177 : 0 ≤ (x9_1 : Int) := of_decide_eq_true qz1
          have q177 : x9_1 < (x8_2.length : Int) := of_decide_eq_true qz1
          obtain ⟨ad177, e177, hx177_0⟩ := Kd.at_int (Kd.R_reads' HO_8.out).2.2 x9_1 p177 q177
          cases e177
          replace p177 := eq_true p177
          replace q177 := eq_true q177
          have p178 : 0 ≤ (x11_2 : Int) := of_decide_eq_true qz1
          have q178 : x11_2 < (t174.length : Int) := of_decide_eq_true qz1
          obtain ⟨ad178, e178, hx178_0⟩ := Kd.at_int (Kd.R_reads' HO_10.out).2.2 x11_2 p178 q178
          cases e178
          replace p178 := eq_true p178
          replace q178 := eq_true q178
          have p179 : 0 ≤ (x9_1 : Int) := of_decide_eq_true qz1
          have q179 : x9_1 < (x8_2.length : Int) := of_decide_eq_true qz1
          obtain ⟨ad179, e179, hx179_0⟩ := Kd.at_int (Kd.R_reads' HO_8.out).2.2 x9_1 p179 q179
          obtain rfl : ad177 = ad179 := (by injection e179)
          replace p179 := eq_true p179
          replace q179 := eq_true q179
          have p180 : 0 ≤ (x11_2 : Int) := of_decide_eq_true qz1
          have q180 : x11_2 < (t174.length : Int) := of_decide_eq_true qz1
          obtain ⟨ad180, e180, hx180_0⟩ := Kd.at_int (Kd.R_reads' HO_10.out).2.2 x11_2 p180 q180
          obtain rfl : ad178 = ad180 := (by injection e180)
          replace p180 := eq_true p180
          replace q180 := eq_true q180
          go_wp2
          (try simp only [← hl7_2])
          go_roundg k2
          case measure => have := HK1.out; have := HK2.out; omega
          case rel => exact ⟨(x7_2), (x8_2), (wrap64 (x11_2 + 1)), qz6, H', ⟨by have := HK1.out; have := HK2.out; omega⟩, ⟨by (try simp only [hl7_1]); (try simp only [hl7_2]); (with_reducible repeat (first | apply Kd.R_alloc | apply Kd.R_drewN | apply Kd.R_drew)); (first | exact HO_7.out | exact Kd.R_mono HO_7.out (fun _ h_ => h_.1) | exact Kd.R_mono HO_7.out (fun _ h_ => h_.2))⟩, ⟨by (try simp only [hl7_1]); (try simp only [hl7_2]); (with_reducible repeat (first | apply Kd.R_alloc | apply Kd.R_drewN | apply Kd.R_drew)); (first | exact HO_8.out | exact Kd.R_mono HO_8.out (fun _ h_ => h_.1) | exact Kd.R_mono HO_8.out (fun _ h_ => h_.2))⟩, ⟨by (try simp only [hl7_1]); (try simp only [hl7_2]); (with_reducible repeat (first | apply Kd.R_alloc | apply Kd.R_drewN | apply Kd.R_drew)); (first | exact HO_10.out | exact Kd.R_mono HO_10.out (fun _ h_ => h_.1) | exact Kd.R_mono HO_10.out (fun _ h_ => h_.2))⟩, ⟨by (try simp only [hl7_1]); (try simp only [hl7_2]); (with_reducible repeat (first | refine blk_drewN ?_ _ | refine blk_drew ?_ | refine blk_alloc ?_ _)); exact BK164.out⟩, ⟨by repeat (first | (with_reducible first | exact HB.out | apply below_alloc | apply pw_below_drewN | apply below_drew1 | refine below_set ?_ GE164.out) | exact HB.out)⟩⟩
          }
          {
          rw [if_neg c32] at H
          have c32b0 : ((rd t174 x11_2) == a1) = false := beq_eq_false_iff_ne.mpr c32
          have c32b1 : ((rd t174 x11_2) != a1) = true := bne_iff_ne.mpr c32
          by_cases c35 : 0 ≤ (rd t174 x11_2)
          {
          rw [if_pos c35] at H
          have c35b0 : decide (0 ≤ (rd t174 x11_2)) = true := decide_eq_true c35
          clear c35
          by_cases c36 : (rd t174 x11_2) < (x7_2.length : Int)
          {
          rw [if_pos c36] at H
          have c36b0 : decide ((rd t174 x11_2) < (x7_2.length : Int)) = true := decide_eq_true c36
          (try (have c36b0q7_1 := c36b0; simp only [hl7_1] at c36b0q7_1))
          (try (have c36b0q7_2 := c36b0; simp only [hl7_2] at c36b0q7_2))
          clear c36
          obtain ⟨bq37, hbq37⟩ : ∃ b_ : Bool, b_ = (rdOf false x7_2 (rd t174 x11_2)) := ⟨_, rfl⟩
          replace H : (if (bq37 = true) then (spec_l3Apart.l1 k2 a1 a2 x7_2 x8_2 x9_1 t174 (wrap64 (x11_2 + 1)) a0_0 a0_1 l0_2) else (if x8_2.length < 17592186044416 then (spec_l3Apart.l1 k2 a1 a2 (x7_2.set ((rd t174 x11_2) : Int).toNat true) (x8_2 ++ [rd t174 x11_2]) x9_1 t174 (wrap64 (x11_2 + 1)) a0_0 a0_1 l0_2) else (none))) = some r := by rw [← hbq37] at H; exact H
          have Nbq37 := Aside0.mk hbq37
          clear hbq37
          by_cases c38 : (bq37 = true)
          {
          subst c38
          have H1 : (spec_l3Apart.l1 k2 a1 a2 x7_2 x8_2 x9_1 t174 (wrap64 (x11_2 + 1)) a0_0 a0_1 l0_2) = some r := by rw [if_pos rfl] at H; exact H
          clear H
          have H := H1
          clear H1
          have H' := Aside0.mk H
          clear H
          obtain ⟨Ao39, co39, eo39⟩ := Kd.R_slice HO_10.out
          subst eo39
          obtain ⟨Ao40, co40, eo40⟩ := Kd.R_slice HO_8.out
          subst eo40
          have p177 : 0 ≤ (x9_1 : Int) := of_decide_eq_true qz1
          have q177 : x9_1 < (x8_2.length : Int) := of_decide_eq_true qz1
          obtain ⟨ad177, e177, hx177_0⟩ := Kd.at_int (Kd.R_reads' HO_8.out).2.2 x9_1 p177 q177
          cases e177
          replace p177 := eq_true p177
          replace q177 := eq_true q177
          have p178 : 0 ≤ (x11_2 : Int) := of_decide_eq_true qz1
          have q178 : x11_2 < (t174.length : Int) := of_decide_eq_true qz1
          obtain ⟨ad178, e178, hx178_0⟩ := Kd.at_int (Kd.R_reads' HO_10.out).2.2 x11_2 p178 q178
          cases e178
          replace p178 := eq_true p178
          replace q178 := eq_true q178
          have p179 : 0 ≤ (x9_1 : Int) := of_decide_eq_true qz1
          have q179 : x9_1 < (x8_2.length : Int) := of_decide_eq_true qz1
          obtain ⟨ad179, e179, hx179_0⟩ := Kd.at_int (Kd.R_reads' HO_8.out).2.2 x9_1 p179 q179
          obtain rfl : ad177 = ad179 := (by injection e179)
          replace p179 := eq_true p179
          replace q179 := eq_true q179
          have p180 : 0 ≤ (x11_2 : Int) := of_decide_eq_true qz1
          have q180 : x11_2 < (t174.length : Int) := of_decide_eq_true qz1
          obtain ⟨ad180, e180, hx180_0⟩ := Kd.at_int (Kd.R_reads' HO_10.out).2.2 x11_2 p180 q180
          obtain rfl : ad178 = ad180 := (by injection e180)
          replace p180 := eq_true p180
          replace q180 := eq_true q180
          have p181 : 0 ≤ (x11_2 : Int) := of_decide_eq_true qz1
          have q181 : x11_2 < (t174.length : Int) := of_decide_eq_true qz1
          obtain ⟨ad181, e181, hx181_0⟩ := Kd.at_int (Kd.R_reads' HO_10.out).2.2 x11_2 p181 q181
          obtain rfl : ad178 = ad181 := (by injection e181)
          replace p181 := eq_true p181
          replace q181 := eq_true q181
          have p182 : 0 ≤ ((rd t174 x11_2) : Int) := of_decide_eq_true qz1
          have q182 : (rd t174 x11_2) < (x7_2.length : Int) := of_decide_eq_true qz1
          obtain ⟨ad182, e182, hx182_0⟩ := Kd.at_bool (Kd.R_reads' HO_7.out).2.2 (rd t174 x11_2) p182 q182
          (try rw [← Nbq37.out] at hx182_0)
          obtain rfl : (⟨go8, 0, none⟩ : Addr) = ad182 := (by injection e182)
          (first | simp only [add_plain] at hx182_0 | simp only [add_at] at hx182_0 | simp only [Addr.add, Nat.zero_add] at hx182_0 | skip)
          replace p182 := eq_true p182
          replace q182 := eq_true q182
          go_wp2
          (try simp only [← hl7_2])
          go_roundg k2
          case measure => have := HK1.out; have := HK2.out; omega
          case rel => exact ⟨(x7_2), (x8_2), (wrap64 (x11_2 + 1)), qz6, H', ⟨by have := HK1.out; have := HK2.out; omega⟩, ⟨by (try simp only [hl7_1]); (try simp only [hl7_2]); (with_reducible repeat (first | apply Kd.R_alloc | apply Kd.R_drewN | apply Kd.R_drew)); (first | exact HO_7.out | exact Kd.R_mono HO_7.out (fun _ h_ => h_.1) | exact Kd.R_mono HO_7.out (fun _ h_ => h_.2))⟩, ⟨by (try simp only [hl7_1]); (try simp only [hl7_2]); (with_reducible repeat (first | apply Kd.R_alloc | apply Kd.R_drewN | apply Kd.R_drew)); (first | exact HO_8.out | exact Kd.R_mono HO_8.out (fun _ h_ => h_.1) | exact Kd.R_mono HO_8.out (fun _ h_ => h_.2))⟩, ⟨by (try simp only [hl7_1]); (try simp only [hl7_2]); (with_reducible repeat (first | apply Kd.R_alloc | apply Kd.R_drewN | apply Kd.R_drew)); (first | exact HO_10.out | exact Kd.R_mono HO_10.out (fun _ h_ => h_.1) | exact Kd.R_mono HO_10.out (fun _ h_ => h_.2))⟩, ⟨by (try simp only [hl7_1]); (try simp only [hl7_2]); (with_reducible repeat (first | refine blk_drewN ?_ _ | refine blk_drew ?_ | refine blk_alloc ?_ _)); exact BK164.out⟩, ⟨by repeat (first | (with_reducible first | exact HB.out | apply below_alloc | apply pw_below_drewN | apply below_drew1 | refine below_set ?_ GE164.out) | exact HB.out)⟩⟩
          }
          {
          replace c38 := Bool.eq_false_iff.mpr c38
          subst c38
          have H1 : (if x8_2.length < 17592186044416 then (spec_l3Apart.l1 k2 a1 a2 (x7_2.set ((rd t174 x11_2) : Int).toNat true) (x8_2 ++ [rd t174 x11_2]) x9_1 t174 (wrap64 (x11_2 + 1)) a0_0 a0_1 l0_2) else (none)) = some r := by rw [if_neg (show ¬ (false = true) by decide)] at H; exact H
          clear H
          have H := H1
          clear H1
          obtain ⟨y184, hy184⟩ : ∃ y_ : List Bool, y_ = (x7_2.set ((rd t174 x11_2) : Int).toNat true) := ⟨_, rfl⟩
          replace H : (if x8_2.length < 17592186044416 then (spec_l3Apart.l1 k2 a1 a2 y184 (x8_2 ++ [rd t174 x11_2]) x9_1 t174 (wrap64 (x11_2 + 1)) a0_0 a0_1 l0_2) else (none)) = some r := by first | (rw [hy184]; with_reducible exact H) | (have H2_ := (Option.bind_some _ _).symm.trans H; rw [hy184]; with_reducible exact H2_) | (have H2_ := (Option.bind_some _ _).symm.trans H; with_reducible exact H2_) | with_reducible exact H | (rw [hy184]; exact H) | exact H
          have Ny184 := Aside0.mk hy184
          clear hy184
          by_cases c42 : x8_2.length < 17592186044416
          {
          rw [if_pos c42] at H
          have LMc42 := Aside0.mk c42
          clear c42
          obtain ⟨y186, hy186⟩ : ∃ y_ : List Int, y_ = (x8_2 ++ [rd t174 x11_2]) := ⟨_, rfl⟩
          replace H : (spec_l3Apart.l1 k2 a1 a2 y184 y186 x9_1 t174 (wrap64 (x11_2 + 1)) a0_0 a0_1 l0_2) = some r := by first | (rw [hy186]; with_reducible exact H) | (have H2_ := (Option.bind_some _ _).symm.trans H; rw [hy186]; with_reducible exact H2_) | (have H2_ := (Option.bind_some _ _).symm.trans H; with_reducible exact H2_) | with_reducible exact H | (rw [hy186]; exact H) | exact H
          have Ny186 := Aside0.mk hy186
          clear hy186
          have H' := Aside0.mk H
          clear H
          obtain ⟨Ao43, co43, eo43⟩ := Kd.R_slice HO_10.out
          subst eo43
          obtain ⟨Ao44, co44, eo44⟩ := Kd.R_slice HO_8.out
          subst eo44
          have p177 : 0 ≤ (x9_1 : Int) := of_decide_eq_true qz1
          have q177 : x9_1 < (x8_2.length : Int) := of_decide_eq_true qz1
          obtain ⟨ad177, e177, hx177_0⟩ := Kd.at_int (Kd.R_reads' HO_8.out).2.2 x9_1 p177 q177
          cases e177
          replace p177 := eq_true p177
          replace q177 := eq_true q177
          have p178 : 0 ≤ (x11_2 : Int) := of_decide_eq_true qz1
          have q178 : x11_2 < (t174.length : Int) := of_decide_eq_true qz1
          obtain ⟨ad178, e178, hx178_0⟩ := Kd.at_int (Kd.R_reads' HO_10.out).2.2 x11_2 p178 q178
          cases e178
          replace p178 := eq_true p178
          replace q178 := eq_true q178
          have p179 : 0 ≤ (x9_1 : Int) := of_decide_eq_true qz1
          have q179 : x9_1 < (x8_2.length : Int) := of_decide_eq_true qz1
          obtain ⟨ad179, e179, hx179_0⟩ := Kd.at_int (Kd.R_reads' HO_8.out).2.2 x9_1 p179 q179
          obtain rfl : ad177 = ad179 := (by injection e179)
          replace p179 := eq_true p179
          replace q179 := eq_true q179
          have p180 : 0 ≤ (x11_2 : Int) := of_decide_eq_true qz1
          have q180 : x11_2 < (t174.length : Int) := of_decide_eq_true qz1
          obtain ⟨ad180, e180, hx180_0⟩ := Kd.at_int (Kd.R_reads' HO_10.out).2.2 x11_2 p180 q180
          obtain rfl : ad178 = ad180 := (by injection e180)
          replace p180 := eq_true p180
          replace q180 := eq_true q180
          have p181 : 0 ≤ (x11_2 : Int) := of_decide_eq_true qz1
          have q181 : x11_2 < (t174.length : Int) := of_decide_eq_true qz1
          obtain ⟨ad181, e181, hx181_0⟩ := Kd.at_int (Kd.R_reads' HO_10.out).2.2 x11_2 p181 q181
          obtain rfl : ad178 = ad181 := (by injection e181)
          replace p181 := eq_true p181
          replace q181 := eq_true q181
          have p182 : 0 ≤ ((rd t174 x11_2) : Int) := of_decide_eq_true qz1
          have q182 : (rd t174 x11_2) < (x7_2.length : Int) := of_decide_eq_true qz1
          obtain ⟨ad182, e182, hx182_0⟩ := Kd.at_bool (Kd.R_reads' HO_7.out).2.2 (rd t174 x11_2) p182 q182
          (try rw [← Nbq37.out] at hx182_0)
          obtain rfl : (⟨go8, 0, none⟩ : Addr) = ad182 := (by injection e182)
          (first | simp only [add_plain] at hx182_0 | simp only [add_at] at hx182_0 | simp only [Addr.add, Nat.zero_add] at hx182_0 | skip)
          replace p182 := eq_true p182
          replace q182 := eq_true q182
          have p183 : 0 ≤ (x11_2 : Int) := of_decide_eq_true qz1
          have q183 : x11_2 < (t174.length : Int) := of_decide_eq_true qz1
          obtain ⟨ad183, e183, hx183_0⟩ := Kd.at_int (Kd.R_reads' HO_10.out).2.2 x11_2 p183 q183
          obtain rfl : ad178 = ad183 := (by injection e183)
          replace p183 := eq_true p183
          replace q183 := eq_true q183
          have p41 : 0 ≤ ((rd t174 x11_2) : Int) := of_decide_eq_true qz1
          have q41 : ((rd t174 x11_2) : Int) < ((x7_2.length : Int) : Int) := of_decide_eq_true qz1
          obtain ⟨hx41_0, hf41_0⟩ := Kd.R_celln false HO_7.out ((rd t174 x11_2) : Int) p41 q41
          replace p41 := eq_true p41
          replace q41 := eq_true q41
          obtain ⟨hy45_, hz45_⟩ := Kd.R_celln false HO_7.out ((rd t174 x11_2) : Int) (of_decide_eq_true qz1) (of_decide_eq_true qz1)
          have HP45 := Kd.R_putg HO_7.out ((rd t174 x11_2) : Int) true
          go_wp2_with (first | ((with_reducible refine gate_store (t := 4) (p := 87) rfl ?_); refine store_event (t := 4) (p := 87) (v := ?vo_w46) (w1 := (wr.setCell ⟨go8, ((rd t174 x11_2) : Int).toNat, none⟩ (.bool true))) ?hg ?ho ?hn ?hr ?_; (case ho => rfl); (case hg => rfl); (case hn => rfl); (case hr => first | (go_simp; done) | (go_simp; rfl)); intro w46 hw; have hg : wr.grownBy w46 (some go8) := (by rw [hw]; exact HP45.2); have hp_ : Kd.R Kd.bool 4 w46 w.heap.size (fun _ => True) (.slice (some ⟨go8, 0, none⟩) x7_2.length co8) y184 := (by rw [hw, Ny184.out]; exact HP45.1); clear HP45; have n0_ := Aside0.mk (hp_); have n1_ := Aside0.mk (Kd.R_over' (v := (.slice (some ⟨go8, 0, none⟩) x7_2.length co8)) qz12 (Kd.R_typed HO_7.out) (by decide) hg); have n2_ := Aside0.mk (Kd.R_over' (v := (.slice (some ⟨go8, 0, none⟩) x7_2.length co8)) (by (with_reducible repeat (first | apply Kd.R_alloc | apply Kd.R_drewN | apply Kd.R_drew)); exact HO_10.out) (Kd.R_typed HO_7.out) (by decide) hg); have n3_ := Aside0.mk (blk_grown (g := gb164) (o := .cells #[.int .i64 a0_0, .int .i64 a0_1, .slice A0_2 l0_2.length c0_2] 27 (0, 0)) (by (with_reducible repeat (first | refine blk_drewN ?_ _ | refine blk_drew ?_ | refine blk_alloc ?_ _)); exact BK164.out) hg (Kd.R_ne HO_7.out BK164.out (by decide))); have n4_ := Aside0.mk ((by rw [hw]; exact below_set (HB.out) GB8.out : Below w.heap.size w w46)); clear HO_7; clear HO_8; clear HO_10; clear BK164; clear HB; have HO_7 := n0_; have HO_8 := n1_; have HO_10 := n2_; have BK164 := n3_; have HB := n4_; clear n0_ n1_ n2_ n3_ n4_; clear hg hw hp_; have p185 : 0 ≤ (x11_2 : Int) := of_decide_eq_true qz1; have q185 : x11_2 < (t174.length : Int) := of_decide_eq_true qz1; obtain ⟨ad185, e185, hx185_0⟩ := Kd.at_int (Kd.R_reads' HO_10.out).2.2 x11_2 p185 q185; obtain rfl : ad178 = ad185 := (by injection e185); replace p185 := eq_true p185; replace q185 := eq_true q185) | ((with_reducible refine gate_builtin (b := .append) (xs := #[.tmp 88, .tmp 93]) rfl ?_); at_builtin; refine Kd.R_append (Kd.int .i64) (w0 := w) w.heap.size rfl (.tmp 88) (.tmp 93) 22 3 (.int .i64 0) 8 rfl Try.underlying22 info3 rfl (by decide) (by omega) (.slice (some ad177) x8_2.length co44) x8_2 (rd t174 x11_2) [.int .i64 (rd t174 x11_2)] (fun k_ => some k_ ≠ (.slice (some ad178) t174.length co43 : Value).ownBlock) (fun _ => False) rfl rfl ?aP (fun _ hk => hk.elim) ?aF ?aO ?aB ?aS ?aL ?_; (case aP => exact rfl); (case aB => exact qz8); (case aF => exact (fun k_ hk => Kd.fresh' (Kd.R_lt (by (with_reducible repeat (first | apply Kd.R_alloc | apply Kd.R_drewN | apply Kd.R_drew)); exact HO_10.out)) k_ hk)); (case aO => exact qz12); (case aS => exact (below_size qz8)); (case aL => have := LMc42.out; omega); intro v187 w47 ho hb hg hat; rw [← Ny186.out] at ho; have n0_ := Aside0.mk (Kd.R_over' qz17 (Kd.R_typed qz12) (by decide) hg); have n1_ := Aside0.mk (Kd.R_after (ok := (fun _ => True)) (by (with_reducible repeat (first | apply Kd.R_alloc | apply Kd.R_drewN | apply Kd.R_drew)); exact Kd.R_mono HO_10.out (fun _ hk => ⟨trivial, hk⟩)) hg hat); have n2_ := Aside0.mk (blk_grown (g := gb164) (o := .cells #[.int .i64 a0_0, .int .i64 a0_1, .slice A0_2 l0_2.length c0_2] 27 (0, 0)) (by (with_reducible repeat (first | refine blk_drewN ?_ _ | refine blk_drew ?_ | refine blk_alloc ?_ _)); exact BK164.out) hg (Kd.R_ne HO_8.out BK164.out (by decide))); have n3_ := Aside0.mk (hb); have n4_ := Aside0.mk (ho); clear HO_7; clear HO_10; clear BK164; clear HB; clear HO_8; have HO_7 := n0_; have HO_10 := n1_; have BK164 := n2_; have HB := n3_; have HO188 := n4_; clear n0_ n1_ n2_ n3_ n4_; clear ho hb hg hat))
          (try simp only [← hl7_2])
          go_roundg k2
          case measure => have := HK1.out; have := HK2.out; omega
          case rel => exact ⟨(y184), (y186), (wrap64 (x11_2 + 1)), qz6, H', ⟨by have := HK1.out; have := HK2.out; omega⟩, ⟨by (try simp only [hl7_1]); (try simp only [hl7_2]); (with_reducible repeat (first | apply Kd.R_alloc | apply Kd.R_drewN | apply Kd.R_drew)); (first | exact HO_7.out | exact Kd.R_mono HO_7.out (fun _ h_ => h_.1) | exact Kd.R_mono HO_7.out (fun _ h_ => h_.2))⟩, ⟨by (try simp only [hl7_1]); (try simp only [hl7_2]); (with_reducible repeat (first | apply Kd.R_alloc | apply Kd.R_drewN | apply Kd.R_drew)); (first | exact HO188.out | exact Kd.R_mono HO188.out (fun _ h_ => h_.1) | exact Kd.R_mono HO188.out (fun _ h_ => h_.2))⟩, ⟨by (try simp only [hl7_1]); (try simp only [hl7_2]); (with_reducible repeat (first | apply Kd.R_alloc | apply Kd.R_drewN | apply Kd.R_drew)); exact Kd.R_mono HO_10.out (fun _ hk => hk.2)⟩, ⟨by (try simp only [hl7_1]); (try simp only [hl7_2]); (with_reducible repeat (first | refine blk_drewN ?_ _ | refine blk_drew ?_ | refine blk_alloc ?_ _)); exact BK164.out⟩, ⟨by repeat (first | (with_reducible first | exact HB.out | apply below_alloc | apply pw_below_drewN | apply below_drew1 | refine below_set ?_ GE164.out) | exact HB.out)⟩⟩
          }
          {
          rw [if_neg c42] at H
          exact absurd H (by simp)
          }
          }
          }
          {
          rw [if_neg c36] at H
          exact absurd H (by simp)
          }
          }
          {
          rw [if_neg c35] at H
          exact absurd H (by simp)
          }
          }
          }
          {
          rw [if_neg c31] at H
          have c31b0 : ((rd x8_2 x9_1) == a2) = false := beq_eq_false_iff_ne.mpr c31
          have c31b1 : ((rd x8_2 x9_1) != a2) = true := bne_iff_ne.mpr c31
          by_cases c48 : 0 ≤ (rd t174 x11_2)
          {
          rw [if_pos c48] at H
          have c48b0 : decide (0 ≤ (rd t174 x11_2)) = true := decide_eq_true c48
          clear c48
          by_cases c49 : (rd t174 x11_2) < (x7_2.length : Int)
          {
          rw [if_pos c49] at H
          have c49b0 : decide ((rd t174 x11_2) < (x7_2.length : Int)) = true := decide_eq_true c49
          (try (have c49b0q7_1 := c49b0; simp only [hl7_1] at c49b0q7_1))
          (try (have c49b0q7_2 := c49b0; simp only [hl7_2] at c49b0q7_2))
          clear c49
          obtain ⟨bq50, hbq50⟩ : ∃ b_ : Bool, b_ = (rdOf false x7_2 (rd t174 x11_2)) := ⟨_, rfl⟩
          replace H : (if (bq50 = true) then (spec_l3Apart.l1 k2 a1 a2 x7_2 x8_2 x9_1 t174 (wrap64 (x11_2 + 1)) a0_0 a0_1 l0_2) else (if x8_2.length < 17592186044416 then (spec_l3Apart.l1 k2 a1 a2 (x7_2.set ((rd t174 x11_2) : Int).toNat true) (x8_2 ++ [rd t174 x11_2]) x9_1 t174 (wrap64 (x11_2 + 1)) a0_0 a0_1 l0_2) else (none))) = some r := by rw [← hbq50] at H; exact H
          have Nbq50 := Aside0.mk hbq50
          clear hbq50
          by_cases c51 : (bq50 = true)
          {
          subst c51
          have H1 : (spec_l3Apart.l1 k2 a1 a2 x7_2 x8_2 x9_1 t174 (wrap64 (x11_2 + 1)) a0_0 a0_1 l0_2) = some r := by rw [if_pos rfl] at H; exact H
          clear H
          have H := H1
          clear H1
          have H' := Aside0.mk H
          clear H
          obtain ⟨Ao52, co52, eo52⟩ := Kd.R_slice HO_10.out
          subst eo52
          obtain ⟨Ao53, co53, eo53⟩ := Kd.R_slice HO_8.out
          subst eo53
          have p177 : 0 ≤ (x9_1 : Int) := of_decide_eq_true qz1
          have q177 : x9_1 < (x8_2.length : Int) := of_decide_eq_true qz1
          obtain ⟨ad177, e177, hx177_0⟩ := Kd.at_int (Kd.R_reads' HO_8.out).2.2 x9_1 p177 q177
          cases e177
          replace p177 := eq_true p177
          replace q177 := eq_true q177
          have p178 : 0 ≤ (x11_2 : Int) := of_decide_eq_true qz1
          have q178 : x11_2 < (t174.length : Int) := of_decide_eq_true qz1
          obtain ⟨ad178, e178, hx178_0⟩ := Kd.at_int (Kd.R_reads' HO_10.out).2.2 x11_2 p178 q178
          cases e178
          replace p178 := eq_true p178
          replace q178 := eq_true q178
          have p179 : 0 ≤ (x9_1 : Int) := of_decide_eq_true qz1
          have q179 : x9_1 < (x8_2.length : Int) := of_decide_eq_true qz1
          obtain ⟨ad179, e179, hx179_0⟩ := Kd.at_int (Kd.R_reads' HO_8.out).2.2 x9_1 p179 q179
          obtain rfl : ad177 = ad179 := (by injection e179)
          replace p179 := eq_true p179
          replace q179 := eq_true q179
          have p189 : 0 ≤ (x11_2 : Int) := of_decide_eq_true qz1
          have q189 : x11_2 < (t174.length : Int) := of_decide_eq_true qz1
          obtain ⟨ad189, e189, hx189_0⟩ := Kd.at_int (Kd.R_reads' HO_10.out).2.2 x11_2 p189 q189
          obtain rfl : ad178 = ad189 := (by injection e189)
          replace p189 := eq_true p189
          replace q189 := eq_true q189
          have p190 : 0 ≤ ((rd t174 x11_2) : Int) := of_decide_eq_true qz1
          have q190 : (rd t174 x11_2) < (x7_2.length : Int) := of_decide_eq_true qz1
          obtain ⟨ad190, e190, hx190_0⟩ := Kd.at_bool (Kd.R_reads' HO_7.out).2.2 (rd t174 x11_2) p190 q190
          (try rw [← Nbq50.out] at hx190_0)
          obtain rfl : (⟨go8, 0, none⟩ : Addr) = ad190 := (by injection e190)
          (first | simp only [add_plain] at hx190_0 | simp only [add_at] at hx190_0 | simp only [Addr.add, Nat.zero_add] at hx190_0 | skip)
          replace p190 := eq_true p190
          replace q190 := eq_true q190
          go_wp2
          (try simp only [← hl7_2])
          go_roundg k2
          case measure => have := HK1.out; have := HK2.out; omega
          case rel => exact ⟨(x7_2), (x8_2), (wrap64 (x11_2 + 1)), qz6, H', ⟨by have := HK1.out; have := HK2.out; omega⟩, ⟨by (try simp only [hl7_1]); (try simp only [hl7_2]); (with_reducible repeat (first | apply Kd.R_alloc | apply Kd.R_drewN | apply Kd.R_drew)); (first | exact HO_7.out | exact Kd.R_mono HO_7.out (fun _ h_ => h_.1) | exact Kd.R_mono HO_7.out (fun _ h_ => h_.2))⟩, ⟨by (try simp only [hl7_1]); (try simp only [hl7_2]); (with_reducible repeat (first | apply Kd.R_alloc | apply Kd.R_drewN | apply Kd.R_drew)); (first | exact HO_8.out | exact Kd.R_mono HO_8.out (fun _ h_ => h_.1) | exact Kd.R_mono HO_8.out (fun _ h_ => h_.2))⟩, ⟨by (try simp only [hl7_1]); (try simp only [hl7_2]); (with_reducible repeat (first | apply Kd.R_alloc | apply Kd.R_drewN | apply Kd.R_drew)); (first | exact HO_10.out | exact Kd.R_mono HO_10.out (fun _ h_ => h_.1) | exact Kd.R_mono HO_10.out (fun _ h_ => h_.2))⟩, ⟨by (try simp only [hl7_1]); (try simp only [hl7_2]); (with_reducible repeat (first | refine blk_drewN ?_ _ | refine blk_drew ?_ | refine blk_alloc ?_ _)); exact BK164.out⟩, ⟨by repeat (first | (with_reducible first | exact HB.out | apply below_alloc | apply pw_below_drewN | apply below_drew1 | refine below_set ?_ GE164.out) | exact HB.out)⟩⟩
          }
          {
          replace c51 := Bool.eq_false_iff.mpr c51
          subst c51
          have H1 : (if x8_2.length < 17592186044416 then (spec_l3Apart.l1 k2 a1 a2 (x7_2.set ((rd t174 x11_2) : Int).toNat true) (x8_2 ++ [rd t174 x11_2]) x9_1 t174 (wrap64 (x11_2 + 1)) a0_0 a0_1 l0_2) else (none)) = some r := by rw [if_neg (show ¬ (false = true) by decide)] at H; exact H
          clear H
          have H := H1
          clear H1
          obtain ⟨y192, hy192⟩ : ∃ y_ : List Bool, y_ = (x7_2.set ((rd t174 x11_2) : Int).toNat true) := ⟨_, rfl⟩
          replace H : (if x8_2.length < 17592186044416 then (spec_l3Apart.l1 k2 a1 a2 y192 (x8_2 ++ [rd t174 x11_2]) x9_1 t174 (wrap64 (x11_2 + 1)) a0_0 a0_1 l0_2) else (none)) = some r := by first | (rw [hy192]; with_reducible exact H) | (have H2_ := (Option.bind_some _ _).symm.trans H; rw [hy192]; with_reducible exact H2_) | (have H2_ := (Option.bind_some _ _).symm.trans H; with_reducible exact H2_) | with_reducible exact H | (rw [hy192]; exact H) | exact H
          have Ny192 := Aside0.mk hy192
          clear hy192
          by_cases c55 : x8_2.length < 17592186044416
          {
          rw [if_pos c55] at H
          have LMc55 := Aside0.mk c55
          clear c55
          obtain ⟨y194, hy194⟩ : ∃ y_ : List Int, y_ = (x8_2 ++ [rd t174 x11_2]) := ⟨_, rfl⟩
          replace H : (spec_l3Apart.l1 k2 a1 a2 y192 y194 x9_1 t174 (wrap64 (x11_2 + 1)) a0_0 a0_1 l0_2) = some r := by first | (rw [hy194]; with_reducible exact H) | (have H2_ := (Option.bind_some _ _).symm.trans H; rw [hy194]; with_reducible exact H2_) | (have H2_ := (Option.bind_some _ _).symm.trans H; with_reducible exact H2_) | with_reducible exact H | (rw [hy194]; exact H) | exact H
          have Ny194 := Aside0.mk hy194
          clear hy194
          have H' := Aside0.mk H
          clear H
          obtain ⟨Ao56, co56, eo56⟩ := Kd.R_slice HO_10.out
          subst eo56
          obtain ⟨Ao57, co57, eo57⟩ := Kd.R_slice HO_8.out
          subst eo57
          have p177 : 0 ≤ (x9_1 : Int) := of_decide_eq_true qz1
          have q177 : x9_1 < (x8_2.length : Int) := of_decide_eq_true qz1
          obtain ⟨ad177, e177, hx177_0⟩ := Kd.at_int (Kd.R_reads' HO_8.out).2.2 x9_1 p177 q177
          cases e177
          replace p177 := eq_true p177
          replace q177 := eq_true q177
          have p178 : 0 ≤ (x11_2 : Int) := of_decide_eq_true qz1
          have q178 : x11_2 < (t174.length : Int) := of_decide_eq_true qz1
          obtain ⟨ad178, e178, hx178_0⟩ := Kd.at_int (Kd.R_reads' HO_10.out).2.2 x11_2 p178 q178
          cases e178
          replace p178 := eq_true p178
          replace q178 := eq_true q178
          have p179 : 0 ≤ (x9_1 : Int) := of_decide_eq_true qz1
          have q179 : x9_1 < (x8_2.length : Int) := of_decide_eq_true qz1
          obtain ⟨ad179, e179, hx179_0⟩ := Kd.at_int (Kd.R_reads' HO_8.out).2.2 x9_1 p179 q179
          obtain rfl : ad177 = ad179 := (by injection e179)
          replace p179 := eq_true p179
          replace q179 := eq_true q179
          have p189 : 0 ≤ (x11_2 : Int) := of_decide_eq_true qz1
          have q189 : x11_2 < (t174.length : Int) := of_decide_eq_true qz1
          obtain ⟨ad189, e189, hx189_0⟩ := Kd.at_int (Kd.R_reads' HO_10.out).2.2 x11_2 p189 q189
          obtain rfl : ad178 = ad189 := (by injection e189)
          replace p189 := eq_true p189
          replace q189 := eq_true q189
          have p190 : 0 ≤ ((rd t174 x11_2) : Int) := of_decide_eq_true qz1
          have q190 : (rd t174 x11_2) < (x7_2.length : Int) := of_decide_eq_true qz1
          obtain ⟨ad190, e190, hx190_0⟩ := Kd.at_bool (Kd.R_reads' HO_7.out).2.2 (rd t174 x11_2) p190 q190
          (try rw [← Nbq50.out] at hx190_0)
          obtain rfl : (⟨go8, 0, none⟩ : Addr) = ad190 := (by injection e190)
          (first | simp only [add_plain] at hx190_0 | simp only [add_at] at hx190_0 | simp only [Addr.add, Nat.zero_add] at hx190_0 | skip)
          replace p190 := eq_true p190
          replace q190 := eq_true q190
          have p191 : 0 ≤ (x11_2 : Int) := of_decide_eq_true qz1
          have q191 : x11_2 < (t174.length : Int) := of_decide_eq_true qz1
          obtain ⟨ad191, e191, hx191_0⟩ := Kd.at_int (Kd.R_reads' HO_10.out).2.2 x11_2 p191 q191
          obtain rfl : ad178 = ad191 := (by injection e191)
          replace p191 := eq_true p191
          replace q191 := eq_true q191
          have p54 : 0 ≤ ((rd t174 x11_2) : Int) := of_decide_eq_true qz1
          have q54 : ((rd t174 x11_2) : Int) < ((x7_2.length : Int) : Int) := of_decide_eq_true qz1
          obtain ⟨hx54_0, hf54_0⟩ := Kd.R_celln false HO_7.out ((rd t174 x11_2) : Int) p54 q54
          replace p54 := eq_true p54
          replace q54 := eq_true q54
          obtain ⟨hy58_, hz58_⟩ := Kd.R_celln false HO_7.out ((rd t174 x11_2) : Int) (of_decide_eq_true qz1) (of_decide_eq_true qz1)
          have HP58 := Kd.R_putg HO_7.out ((rd t174 x11_2) : Int) true
          go_wp2_with (first | ((with_reducible refine gate_store (t := 4) (p := 87) rfl ?_); refine store_event (t := 4) (p := 87) (v := ?vo_w59) (w1 := (wr.setCell ⟨go8, ((rd t174 x11_2) : Int).toNat, none⟩ (.bool true))) ?hg ?ho ?hn ?hr ?_; (case ho => rfl); (case hg => rfl); (case hn => rfl); (case hr => first | (go_simp; done) | (go_simp; rfl)); intro w59 hw; have hg : wr.grownBy w59 (some go8) := (by rw [hw]; exact HP58.2); have hp_ : Kd.R Kd.bool 4 w59 w.heap.size (fun _ => True) (.slice (some ⟨go8, 0, none⟩) x7_2.length co8) y192 := (by rw [hw, Ny192.out]; exact HP58.1); clear HP58; have n0_ := Aside0.mk (hp_); have n1_ := Aside0.mk (Kd.R_over' (v := (.slice (some ⟨go8, 0, none⟩) x7_2.length co8)) qz12 (Kd.R_typed HO_7.out) (by decide) hg); have n2_ := Aside0.mk (Kd.R_over' (v := (.slice (some ⟨go8, 0, none⟩) x7_2.length co8)) (by (with_reducible repeat (first | apply Kd.R_alloc | apply Kd.R_drewN | apply Kd.R_drew)); exact HO_10.out) (Kd.R_typed HO_7.out) (by decide) hg); have n3_ := Aside0.mk (blk_grown (g := gb164) (o := .cells #[.int .i64 a0_0, .int .i64 a0_1, .slice A0_2 l0_2.length c0_2] 27 (0, 0)) (by (with_reducible repeat (first | refine blk_drewN ?_ _ | refine blk_drew ?_ | refine blk_alloc ?_ _)); exact BK164.out) hg (Kd.R_ne HO_7.out BK164.out (by decide))); have n4_ := Aside0.mk ((by rw [hw]; exact below_set (HB.out) GB8.out : Below w.heap.size w w59)); clear HO_7; clear HO_8; clear HO_10; clear BK164; clear HB; have HO_7 := n0_; have HO_8 := n1_; have HO_10 := n2_; have BK164 := n3_; have HB := n4_; clear n0_ n1_ n2_ n3_ n4_; clear hg hw hp_; have p193 : 0 ≤ (x11_2 : Int) := of_decide_eq_true qz1; have q193 : x11_2 < (t174.length : Int) := of_decide_eq_true qz1; obtain ⟨ad193, e193, hx193_0⟩ := Kd.at_int (Kd.R_reads' HO_10.out).2.2 x11_2 p193 q193; obtain rfl : ad178 = ad193 := (by injection e193); replace p193 := eq_true p193; replace q193 := eq_true q193) | ((with_reducible refine gate_builtin (b := .append) (xs := #[.tmp 88, .tmp 93]) rfl ?_); at_builtin; refine Kd.R_append (Kd.int .i64) (w0 := w) w.heap.size rfl (.tmp 88) (.tmp 93) 22 3 (.int .i64 0) 8 rfl Try.underlying22 info3 rfl (by decide) (by omega) (.slice (some ad177) x8_2.length co57) x8_2 (rd t174 x11_2) [.int .i64 (rd t174 x11_2)] (fun k_ => some k_ ≠ (.slice (some ad178) t174.length co56 : Value).ownBlock) (fun _ => False) rfl rfl ?aP (fun _ hk => hk.elim) ?aF ?aO ?aB ?aS ?aL ?_; (case aP => exact rfl); (case aB => exact qz8); (case aF => exact (fun k_ hk => Kd.fresh' (Kd.R_lt (by (with_reducible repeat (first | apply Kd.R_alloc | apply Kd.R_drewN | apply Kd.R_drew)); exact HO_10.out)) k_ hk)); (case aO => exact qz12); (case aS => exact (below_size qz8)); (case aL => have := LMc55.out; omega); intro v195 w60 ho hb hg hat; rw [← Ny194.out] at ho; have n0_ := Aside0.mk (Kd.R_over' qz17 (Kd.R_typed qz12) (by decide) hg); have n1_ := Aside0.mk (Kd.R_after (ok := (fun _ => True)) (by (with_reducible repeat (first | apply Kd.R_alloc | apply Kd.R_drewN | apply Kd.R_drew)); exact Kd.R_mono HO_10.out (fun _ hk => ⟨trivial, hk⟩)) hg hat); have n2_ := Aside0.mk (blk_grown (g := gb164) (o := .cells #[.int .i64 a0_0, .int .i64 a0_1, .slice A0_2 l0_2.length c0_2] 27 (0, 0)) (by (with_reducible repeat (first | refine blk_drewN ?_ _ | refine blk_drew ?_ | refine blk_alloc ?_ _)); exact BK164.out) hg (Kd.R_ne HO_8.out BK164.out (by decide))); have n3_ := Aside0.mk (hb); have n4_ := Aside0.mk (ho); clear HO_7; clear HO_10; clear BK164; clear HB; clear HO_8; have HO_7 := n0_; have HO_10 := n1_; have BK164 := n2_; have HB := n3_; have HO196 := n4_; clear n0_ n1_ n2_ n3_ n4_; clear ho hb hg hat))
          (try simp only [← hl7_2])
          go_roundg k2
          case measure => have := HK1.out; have := HK2.out; omega
          case rel => exact ⟨(y192), (y194), (wrap64 (x11_2 + 1)), qz6, H', ⟨by have := HK1.out; have := HK2.out; omega⟩, ⟨by (try simp only [hl7_1]); (try simp only [hl7_2]); (with_reducible repeat (first | apply Kd.R_alloc | apply Kd.R_drewN | apply Kd.R_drew)); (first | exact HO_7.out | exact Kd.R_mono HO_7.out (fun _ h_ => h_.1) | exact Kd.R_mono HO_7.out (fun _ h_ => h_.2))⟩, ⟨by (try simp only [hl7_1]); (try simp only [hl7_2]); (with_reducible repeat (first | apply Kd.R_alloc | apply Kd.R_drewN | apply Kd.R_drew)); (first | exact HO196.out | exact Kd.R_mono HO196.out (fun _ h_ => h_.1) | exact Kd.R_mono HO196.out (fun _ h_ => h_.2))⟩, ⟨by (try simp only [hl7_1]); (try simp only [hl7_2]); (with_reducible repeat (first | apply Kd.R_alloc | apply Kd.R_drewN | apply Kd.R_drew)); exact Kd.R_mono HO_10.out (fun _ hk => hk.2)⟩, ⟨by (try simp only [hl7_1]); (try simp only [hl7_2]); (with_reducible repeat (first | refine blk_drewN ?_ _ | refine blk_drew ?_ | refine blk_alloc ?_ _)); exact BK164.out⟩, ⟨by repeat (first | (with_reducible first | exact HB.out | apply below_alloc | apply pw_below_drewN | apply below_drew1 | refine below_set ?_ GE164.out) | exact HB.out)⟩⟩
          }
          {
          rw [if_neg c55] at H
          exact absurd H (by simp)
          }
          }
          }
          {
          rw [if_neg c49] at H
          exact absurd H (by simp)
          }
          }
          {
          rw [if_neg c48] at H
          exact absurd H (by simp)
          }
          }
          }
          }
          {
          rw [if_neg c27] at H
          exact absurd H (by simp)
          }
          }
          {
          rw [if_neg c26] at H
          have c26b0 : ((rd x8_2 x9_1) == a1) = false := beq_eq_false_iff_ne.mpr c26
          have c26b1 : ((rd x8_2 x9_1) != a1) = true := bne_iff_ne.mpr c26
          by_cases c61 : (rd x8_2 x9_1) = a2
          {
          rw [if_pos c61] at H
          have c61b0 : ((rd x8_2 x9_1) == a2) = true := beq_iff_eq.mpr c61
          have c61b1 : ((rd x8_2 x9_1) != a2) = false := bne_eq_false_iff_eq.mpr c61
          clear c61
          by_cases c62 : 0 ≤ x11_2
          {
          rw [if_pos c62] at H
          have c62b0 : decide (0 ≤ x11_2) = true := decide_eq_true c62
          clear c62
          by_cases c63 : ((rd t174 x11_2) = a1)
          {
          rw [if_pos c63] at H
          have c63b0 : ((rd t174 x11_2) == a1) = true := beq_iff_eq.mpr c63
          have c63b1 : ((rd t174 x11_2) != a1) = false := bne_eq_false_iff_eq.mpr c63
          clear c63
          have H' := Aside0.mk H
          clear H
          obtain ⟨Ao64, co64, eo64⟩ := Kd.R_slice HO_10.out
          subst eo64
          obtain ⟨Ao65, co65, eo65⟩ := Kd.R_slice HO_8.out
          subst eo65
          have p177 : 0 ≤ (x9_1 : Int) := of_decide_eq_true qz1
          have q177 : x9_1 < (x8_2.length : Int) := of_decide_eq_true qz1
          obtain ⟨ad177, e177, hx177_0⟩ := Kd.at_int (Kd.R_reads' HO_8.out).2.2 x9_1 p177 q177
          cases e177
          replace p177 := eq_true p177
          replace q177 := eq_true q177
          have p197 : 0 ≤ (x9_1 : Int) := of_decide_eq_true qz1
          have q197 : x9_1 < (x8_2.length : Int) := of_decide_eq_true qz1
          obtain ⟨ad197, e197, hx197_0⟩ := Kd.at_int (Kd.R_reads' HO_8.out).2.2 x9_1 p197 q197
          obtain rfl : ad177 = ad197 := (by injection e197)
          replace p197 := eq_true p197
          replace q197 := eq_true q197
          have p198 : 0 ≤ (x11_2 : Int) := of_decide_eq_true qz1
          have q198 : x11_2 < (t174.length : Int) := of_decide_eq_true qz1
          obtain ⟨ad198, e198, hx198_0⟩ := Kd.at_int (Kd.R_reads' HO_10.out).2.2 x11_2 p198 q198
          cases e198
          replace p198 := eq_true p198
          replace q198 := eq_true q198
          go_wp2
          (try simp only [← hl7_2])
          go_roundg k2
          case measure => have := HK1.out; have := HK2.out; omega
          case rel => exact ⟨(x7_2), (x8_2), (wrap64 (x11_2 + 1)), qz6, H', ⟨by have := HK1.out; have := HK2.out; omega⟩, ⟨by (try simp only [hl7_1]); (try simp only [hl7_2]); (with_reducible repeat (first | apply Kd.R_alloc | apply Kd.R_drewN | apply Kd.R_drew)); (first | exact HO_7.out | exact Kd.R_mono HO_7.out (fun _ h_ => h_.1) | exact Kd.R_mono HO_7.out (fun _ h_ => h_.2))⟩, ⟨by (try simp only [hl7_1]); (try simp only [hl7_2]); (with_reducible repeat (first | apply Kd.R_alloc | apply Kd.R_drewN | apply Kd.R_drew)); (first | exact HO_8.out | exact Kd.R_mono HO_8.out (fun _ h_ => h_.1) | exact Kd.R_mono HO_8.out (fun _ h_ => h_.2))⟩, ⟨by (try simp only [hl7_1]); (try simp only [hl7_2]); (with_reducible repeat (first | apply Kd.R_alloc | apply Kd.R_drewN | apply Kd.R_drew)); (first | exact HO_10.out | exact Kd.R_mono HO_10.out (fun _ h_ => h_.1) | exact Kd.R_mono HO_10.out (fun _ h_ => h_.2))⟩, ⟨by (try simp only [hl7_1]); (try simp only [hl7_2]); (with_reducible repeat (first | refine blk_drewN ?_ _ | refine blk_drew ?_ | refine blk_alloc ?_ _)); exact BK164.out⟩, ⟨by repeat (first | (with_reducible first | exact HB.out | apply below_alloc | apply pw_below_drewN | apply below_drew1 | refine below_set ?_ GE164.out) | exact HB.out)⟩⟩
          }
          {
          rw [if_neg c63] at H
          have c63b0 : ((rd t174 x11_2) == a1) = false := beq_eq_false_iff_ne.mpr c63
          have c63b1 : ((rd t174 x11_2) != a1) = true := bne_iff_ne.mpr c63
          by_cases c66 : 0 ≤ (rd t174 x11_2)
          {
          rw [if_pos c66] at H
          have c66b0 : decide (0 ≤ (rd t174 x11_2)) = true := decide_eq_true c66
          clear c66
          by_cases c67 : (rd t174 x11_2) < (x7_2.length : Int)
          {
          rw [if_pos c67] at H
          have c67b0 : decide ((rd t174 x11_2) < (x7_2.length : Int)) = true := decide_eq_true c67
          (try (have c67b0q7_1 := c67b0; simp only [hl7_1] at c67b0q7_1))
          (try (have c67b0q7_2 := c67b0; simp only [hl7_2] at c67b0q7_2))
          clear c67
          obtain ⟨bq68, hbq68⟩ : ∃ b_ : Bool, b_ = (rdOf false x7_2 (rd t174 x11_2)) := ⟨_, rfl⟩
          replace H : (if (bq68 = true) then (spec_l3Apart.l1 k2 a1 a2 x7_2 x8_2 x9_1 t174 (wrap64 (x11_2 + 1)) a0_0 a0_1 l0_2) else (if x8_2.length < 17592186044416 then (spec_l3Apart.l1 k2 a1 a2 (x7_2.set ((rd t174 x11_2) : Int).toNat true) (x8_2 ++ [rd t174 x11_2]) x9_1 t174 (wrap64 (x11_2 + 1)) a0_0 a0_1 l0_2) else (none))) = some r := by rw [← hbq68] at H; exact H
          have Nbq68 := Aside0.mk hbq68
          clear hbq68
          by_cases c69 : (bq68 = true)
          {
          subst c69
          have H1 : (spec_l3Apart.l1 k2 a1 a2 x7_2 x8_2 x9_1 t174 (wrap64 (x11_2 + 1)) a0_0 a0_1 l0_2) = some r := by rw [if_pos rfl] at H; exact H
          clear H
          have H := H1
          clear H1
          have H' := Aside0.mk H
          clear H
          obtain ⟨Ao70, co70, eo70⟩ := Kd.R_slice HO_10.out
          subst eo70
          obtain ⟨Ao71, co71, eo71⟩ := Kd.R_slice HO_8.out
          subst eo71
          have p177 : 0 ≤ (x9_1 : Int) := of_decide_eq_true qz1
          have q177 : x9_1 < (x8_2.length : Int) := of_decide_eq_true qz1
          obtain ⟨ad177, e177, hx177_0⟩ := Kd.at_int (Kd.R_reads' HO_8.out).2.2 x9_1 p177 q177
          cases e177
          replace p177 := eq_true p177
          replace q177 := eq_true q177
          have p197 : 0 ≤ (x9_1 : Int) := of_decide_eq_true qz1
          have q197 : x9_1 < (x8_2.length : Int) := of_decide_eq_true qz1
          obtain ⟨ad197, e197, hx197_0⟩ := Kd.at_int (Kd.R_reads' HO_8.out).2.2 x9_1 p197 q197
          obtain rfl : ad177 = ad197 := (by injection e197)
          replace p197 := eq_true p197
          replace q197 := eq_true q197
          have p198 : 0 ≤ (x11_2 : Int) := of_decide_eq_true qz1
          have q198 : x11_2 < (t174.length : Int) := of_decide_eq_true qz1
          obtain ⟨ad198, e198, hx198_0⟩ := Kd.at_int (Kd.R_reads' HO_10.out).2.2 x11_2 p198 q198
          cases e198
          replace p198 := eq_true p198
          replace q198 := eq_true q198
          have p199 : 0 ≤ (x11_2 : Int) := of_decide_eq_true qz1
          have q199 : x11_2 < (t174.length : Int) := of_decide_eq_true qz1
          obtain ⟨ad199, e199, hx199_0⟩ := Kd.at_int (Kd.R_reads' HO_10.out).2.2 x11_2 p199 q199
          obtain rfl : ad198 = ad199 := (by injection e199)
          replace p199 := eq_true p199
          replace q199 := eq_true q199
          have p200 : 0 ≤ ((rd t174 x11_2) : Int) := of_decide_eq_true qz1
          have q200 : (rd t174 x11_2) < (x7_2.length : Int) := of_decide_eq_true qz1
          obtain ⟨ad200, e200, hx200_0⟩ := Kd.at_bool (Kd.R_reads' HO_7.out).2.2 (rd t174 x11_2) p200 q200
          (try rw [← Nbq68.out] at hx200_0)
          obtain rfl : (⟨go8, 0, none⟩ : Addr) = ad200 := (by injection e200)
          (first | simp only [add_plain] at hx200_0 | simp only [add_at] at hx200_0 | simp only [Addr.add, Nat.zero_add] at hx200_0 | skip)
          replace p200 := eq_true p200
          replace q200 := eq_true q200
          go_wp2
          (try simp only [← hl7_2])
          go_roundg k2
          case measure => have := HK1.out; have := HK2.out; omega
          case rel => exact ⟨(x7_2), (x8_2), (wrap64 (x11_2 + 1)), qz6, H', ⟨by have := HK1.out; have := HK2.out; omega⟩, ⟨by (try simp only [hl7_1]); (try simp only [hl7_2]); (with_reducible repeat (first | apply Kd.R_alloc | apply Kd.R_drewN | apply Kd.R_drew)); (first | exact HO_7.out | exact Kd.R_mono HO_7.out (fun _ h_ => h_.1) | exact Kd.R_mono HO_7.out (fun _ h_ => h_.2))⟩, ⟨by (try simp only [hl7_1]); (try simp only [hl7_2]); (with_reducible repeat (first | apply Kd.R_alloc | apply Kd.R_drewN | apply Kd.R_drew)); (first | exact HO_8.out | exact Kd.R_mono HO_8.out (fun _ h_ => h_.1) | exact Kd.R_mono HO_8.out (fun _ h_ => h_.2))⟩, ⟨by (try simp only [hl7_1]); (try simp only [hl7_2]); (with_reducible repeat (first | apply Kd.R_alloc | apply Kd.R_drewN | apply Kd.R_drew)); (first | exact HO_10.out | exact Kd.R_mono HO_10.out (fun _ h_ => h_.1) | exact Kd.R_mono HO_10.out (fun _ h_ => h_.2))⟩, ⟨by (try simp only [hl7_1]); (try simp only [hl7_2]); (with_reducible repeat (first | refine blk_drewN ?_ _ | refine blk_drew ?_ | refine blk_alloc ?_ _)); exact BK164.out⟩, ⟨by repeat (first | (with_reducible first | exact HB.out | apply below_alloc | apply pw_below_drewN | apply below_drew1 | refine below_set ?_ GE164.out) | exact HB.out)⟩⟩
          }
          {
          replace c69 := Bool.eq_false_iff.mpr c69
          subst c69
          have H1 : (if x8_2.length < 17592186044416 then (spec_l3Apart.l1 k2 a1 a2 (x7_2.set ((rd t174 x11_2) : Int).toNat true) (x8_2 ++ [rd t174 x11_2]) x9_1 t174 (wrap64 (x11_2 + 1)) a0_0 a0_1 l0_2) else (none)) = some r := by rw [if_neg (show ¬ (false = true) by decide)] at H; exact H
          clear H
          have H := H1
          clear H1
          obtain ⟨y202, hy202⟩ : ∃ y_ : List Bool, y_ = (x7_2.set ((rd t174 x11_2) : Int).toNat true) := ⟨_, rfl⟩
          replace H : (if x8_2.length < 17592186044416 then (spec_l3Apart.l1 k2 a1 a2 y202 (x8_2 ++ [rd t174 x11_2]) x9_1 t174 (wrap64 (x11_2 + 1)) a0_0 a0_1 l0_2) else (none)) = some r := by first | (rw [hy202]; with_reducible exact H) | (have H2_ := (Option.bind_some _ _).symm.trans H; rw [hy202]; with_reducible exact H2_) | (have H2_ := (Option.bind_some _ _).symm.trans H; with_reducible exact H2_) | with_reducible exact H | (rw [hy202]; exact H) | exact H
          have Ny202 := Aside0.mk hy202
          clear hy202
          by_cases c73 : x8_2.length < 17592186044416
          {
          rw [if_pos c73] at H
          have LMc73 := Aside0.mk c73
          clear c73
          obtain ⟨y204, hy204⟩ : ∃ y_ : List Int, y_ = (x8_2 ++ [rd t174 x11_2]) := ⟨_, rfl⟩
          replace H : (spec_l3Apart.l1 k2 a1 a2 y202 y204 x9_1 t174 (wrap64 (x11_2 + 1)) a0_0 a0_1 l0_2) = some r := by first | (rw [hy204]; with_reducible exact H) | (have H2_ := (Option.bind_some _ _).symm.trans H; rw [hy204]; with_reducible exact H2_) | (have H2_ := (Option.bind_some _ _).symm.trans H; with_reducible exact H2_) | with_reducible exact H | (rw [hy204]; exact H) | exact H
          have Ny204 := Aside0.mk hy204
          clear hy204
          have H' := Aside0.mk H
          clear H
          obtain ⟨Ao74, co74, eo74⟩ := Kd.R_slice HO_10.out
          subst eo74
          obtain ⟨Ao75, co75, eo75⟩ := Kd.R_slice HO_8.out
          subst eo75
          have p177 : 0 ≤ (x9_1 : Int) := of_decide_eq_true qz1
          have q177 : x9_1 < (x8_2.length : Int) := of_decide_eq_true qz1
          obtain ⟨ad177, e177, hx177_0⟩ := Kd.at_int (Kd.R_reads' HO_8.out).2.2 x9_1 p177 q177
          cases e177
          replace p177 := eq_true p177
          replace q177 := eq_true q177
          have p197 : 0 ≤ (x9_1 : Int) := of_decide_eq_true qz1
          have q197 : x9_1 < (x8_2.length : Int) := of_decide_eq_true qz1
          obtain ⟨ad197, e197, hx197_0⟩ := Kd.at_int (Kd.R_reads' HO_8.out).2.2 x9_1 p197 q197
          obtain rfl : ad177 = ad197 := (by injection e197)
          replace p197 := eq_true p197
          replace q197 := eq_true q197
          have p198 : 0 ≤ (x11_2 : Int) := of_decide_eq_true qz1
          have q198 : x11_2 < (t174.length : Int) := of_decide_eq_true qz1
          obtain ⟨ad198, e198, hx198_0⟩ := Kd.at_int (Kd.R_reads' HO_10.out).2.2 x11_2 p198 q198
          cases e198
          replace p198 := eq_true p198
          replace q198 := eq_true q198
          have p199 : 0 ≤ (x11_2 : Int) := of_decide_eq_true qz1
          have q199 : x11_2 < (t174.length : Int) := of_decide_eq_true qz1
          obtain ⟨ad199, e199, hx199_0⟩ := Kd.at_int (Kd.R_reads' HO_10.out).2.2 x11_2 p199 q199
          obtain rfl : ad198 = ad199 := (by injection e199)
          replace p199 := eq_true p199
          replace q199 := eq_true q199
          have p200 : 0 ≤ ((rd t174 x11_2) : Int) := of_decide_eq_true qz1
          have q200 : (rd t174 x11_2) < (x7_2.length : Int) := of_decide_eq_true qz1
          obtain ⟨ad200, e200, hx200_0⟩ := Kd.at_bool (Kd.R_reads' HO_7.out).2.2 (rd t174 x11_2) p200 q200
          (try rw [← Nbq68.out] at hx200_0)
          obtain rfl : (⟨go8, 0, none⟩ : Addr) = ad200 := (by injection e200)
          (first | simp only [add_plain] at hx200_0 | simp only [add_at] at hx200_0 | simp only [Addr.add, Nat.zero_add] at hx200_0 | skip)
          replace p200 := eq_true p200
          replace q200 := eq_true q200
          have p201 : 0 ≤ (x11_2 : Int) := of_decide_eq_true qz1
          have q201 : x11_2 < (t174.length : Int) := of_decide_eq_true qz1
          obtain ⟨ad201, e201, hx201_0⟩ := Kd.at_int (Kd.R_reads' HO_10.out).2.2 x11_2 p201 q201
          obtain rfl : ad198 = ad201 := (by injection e201)
          replace p201 := eq_true p201
          replace q201 := eq_true q201
          have p72 : 0 ≤ ((rd t174 x11_2) : Int) := of_decide_eq_true qz1
          have q72 : ((rd t174 x11_2) : Int) < ((x7_2.length : Int) : Int) := of_decide_eq_true qz1
          obtain ⟨hx72_0, hf72_0⟩ := Kd.R_celln false HO_7.out ((rd t174 x11_2) : Int) p72 q72
          replace p72 := eq_true p72
          replace q72 := eq_true q72
          obtain ⟨hy76_, hz76_⟩ := Kd.R_celln false HO_7.out ((rd t174 x11_2) : Int) (of_decide_eq_true qz1) (of_decide_eq_true qz1)
          have HP76 := Kd.R_putg HO_7.out ((rd t174 x11_2) : Int) true
          go_wp2_with (first | ((with_reducible refine gate_store (t := 4) (p := 87) rfl ?_); refine store_event (t := 4) (p := 87) (v := ?vo_w77) (w1 := (wr.setCell ⟨go8, ((rd t174 x11_2) : Int).toNat, none⟩ (.bool true))) ?hg ?ho ?hn ?hr ?_; (case ho => rfl); (case hg => rfl); (case hn => rfl); (case hr => first | (go_simp; done) | (go_simp; rfl)); intro w77 hw; have hg : wr.grownBy w77 (some go8) := (by rw [hw]; exact HP76.2); have hp_ : Kd.R Kd.bool 4 w77 w.heap.size (fun _ => True) (.slice (some ⟨go8, 0, none⟩) x7_2.length co8) y202 := (by rw [hw, Ny202.out]; exact HP76.1); clear HP76; have n0_ := Aside0.mk (hp_); have n1_ := Aside0.mk (Kd.R_over' (v := (.slice (some ⟨go8, 0, none⟩) x7_2.length co8)) qz12 (Kd.R_typed HO_7.out) (by decide) hg); have n2_ := Aside0.mk (Kd.R_over' (v := (.slice (some ⟨go8, 0, none⟩) x7_2.length co8)) (by (with_reducible repeat (first | apply Kd.R_alloc | apply Kd.R_drewN | apply Kd.R_drew)); exact HO_10.out) (Kd.R_typed HO_7.out) (by decide) hg); have n3_ := Aside0.mk (blk_grown (g := gb164) (o := .cells #[.int .i64 a0_0, .int .i64 a0_1, .slice A0_2 l0_2.length c0_2] 27 (0, 0)) (by (with_reducible repeat (first | refine blk_drewN ?_ _ | refine blk_drew ?_ | refine blk_alloc ?_ _)); exact BK164.out) hg (Kd.R_ne HO_7.out BK164.out (by decide))); have n4_ := Aside0.mk ((by rw [hw]; exact below_set (HB.out) GB8.out : Below w.heap.size w w77)); clear HO_7; clear HO_8; clear HO_10; clear BK164; clear HB; have HO_7 := n0_; have HO_8 := n1_; have HO_10 := n2_; have BK164 := n3_; have HB := n4_; clear n0_ n1_ n2_ n3_ n4_; clear hg hw hp_; have p203 : 0 ≤ (x11_2 : Int) := of_decide_eq_true qz1; have q203 : x11_2 < (t174.length : Int) := of_decide_eq_true qz1; obtain ⟨ad203, e203, hx203_0⟩ := Kd.at_int (Kd.R_reads' HO_10.out).2.2 x11_2 p203 q203; obtain rfl : ad198 = ad203 := (by injection e203); replace p203 := eq_true p203; replace q203 := eq_true q203) | ((with_reducible refine gate_builtin (b := .append) (xs := #[.tmp 88, .tmp 93]) rfl ?_); at_builtin; refine Kd.R_append (Kd.int .i64) (w0 := w) w.heap.size rfl (.tmp 88) (.tmp 93) 22 3 (.int .i64 0) 8 rfl Try.underlying22 info3 rfl (by decide) (by omega) (.slice (some ad177) x8_2.length co75) x8_2 (rd t174 x11_2) [.int .i64 (rd t174 x11_2)] (fun k_ => some k_ ≠ (.slice (some ad198) t174.length co74 : Value).ownBlock) (fun _ => False) rfl rfl ?aP (fun _ hk => hk.elim) ?aF ?aO ?aB ?aS ?aL ?_; (case aP => exact rfl); (case aB => exact qz8); (case aF => exact (fun k_ hk => Kd.fresh' (Kd.R_lt (by (with_reducible repeat (first | apply Kd.R_alloc | apply Kd.R_drewN | apply Kd.R_drew)); exact HO_10.out)) k_ hk)); (case aO => exact qz12); (case aS => exact (below_size qz8)); (case aL => have := LMc73.out; omega); intro v205 w78 ho hb hg hat; rw [← Ny204.out] at ho; have n0_ := Aside0.mk (Kd.R_over' qz17 (Kd.R_typed qz12) (by decide) hg); have n1_ := Aside0.mk (Kd.R_after (ok := (fun _ => True)) (by (with_reducible repeat (first | apply Kd.R_alloc | apply Kd.R_drewN | apply Kd.R_drew)); exact Kd.R_mono HO_10.out (fun _ hk => ⟨trivial, hk⟩)) hg hat); have n2_ := Aside0.mk (blk_grown (g := gb164) (o := .cells #[.int .i64 a0_0, .int .i64 a0_1, .slice A0_2 l0_2.length c0_2] 27 (0, 0)) (by (with_reducible repeat (first | refine blk_drewN ?_ _ | refine blk_drew ?_ | refine blk_alloc ?_ _)); exact BK164.out) hg (Kd.R_ne HO_8.out BK164.out (by decide))); have n3_ := Aside0.mk (hb); have n4_ := Aside0.mk (ho); clear HO_7; clear HO_10; clear BK164; clear HB; clear HO_8; have HO_7 := n0_; have HO_10 := n1_; have BK164 := n2_; have HB := n3_; have HO206 := n4_; clear n0_ n1_ n2_ n3_ n4_; clear ho hb hg hat))
          (try simp only [← hl7_2])
          go_roundg k2
          case measure => have := HK1.out; have := HK2.out; omega
          case rel => exact ⟨(y202), (y204), (wrap64 (x11_2 + 1)), qz6, H', ⟨by have := HK1.out; have := HK2.out; omega⟩, ⟨by (try simp only [hl7_1]); (try simp only [hl7_2]); (with_reducible repeat (first | apply Kd.R_alloc | apply Kd.R_drewN | apply Kd.R_drew)); (first | exact HO_7.out | exact Kd.R_mono HO_7.out (fun _ h_ => h_.1) | exact Kd.R_mono HO_7.out (fun _ h_ => h_.2))⟩, ⟨by (try simp only [hl7_1]); (try simp only [hl7_2]); (with_reducible repeat (first | apply Kd.R_alloc | apply Kd.R_drewN | apply Kd.R_drew)); (first | exact HO206.out | exact Kd.R_mono HO206.out (fun _ h_ => h_.1) | exact Kd.R_mono HO206.out (fun _ h_ => h_.2))⟩, ⟨by (try simp only [hl7_1]); (try simp only [hl7_2]); (with_reducible repeat (first | apply Kd.R_alloc | apply Kd.R_drewN | apply Kd.R_drew)); exact Kd.R_mono HO_10.out (fun _ hk => hk.2)⟩, ⟨by (try simp only [hl7_1]); (try simp only [hl7_2]); (with_reducible repeat (first | refine blk_drewN ?_ _ | refine blk_drew ?_ | refine blk_alloc ?_ _)); exact BK164.out⟩, ⟨by repeat (first | (with_reducible first | exact HB.out | apply below_alloc | apply pw_below_drewN | apply below_drew1 | refine below_set ?_ GE164.out) | exact HB.out)⟩⟩
          }
          {
          rw [if_neg c73] at H
          exact absurd H (by simp)
          }
          }
          }
          {
          rw [if_neg c67] at H
          exact absurd H (by simp)
          }
          }
          {
          rw [if_neg c66] at H
          exact absurd H (by simp)
          }
          }
          }
          {
          rw [if_neg c62] at H
          exact absurd H (by simp)
          }
          }
          {
          rw [if_neg c61] at H
          have c61b0 : ((rd x8_2 x9_1) == a2) = false := beq_eq_false_iff_ne.mpr c61
          have c61b1 : ((rd x8_2 x9_1) != a2) = true := bne_iff_ne.mpr c61
          by_cases c79 : 0 ≤ x11_2
          {
          rw [if_pos c79] at H
          have c79b0 : decide (0 ≤ x11_2) = true := decide_eq_true c79
          clear c79
          by_cases c80 : 0 ≤ (rd t174 x11_2)
          {
          rw [if_pos c80] at H
          have c80b0 : decide (0 ≤ (rd t174 x11_2)) = true := decide_eq_true c80
          clear c80
          by_cases c81 : (rd t174 x11_2) < (x7_2.length : Int)
          {
          rw [if_pos c81] at H
          have c81b0 : decide ((rd t174 x11_2) < (x7_2.length : Int)) = true := decide_eq_true c81
          (try (have c81b0q7_1 := c81b0; simp only [hl7_1] at c81b0q7_1))
          (try (have c81b0q7_2 := c81b0; simp only [hl7_2] at c81b0q7_2))
          clear c81
          obtain ⟨bq82, hbq82⟩ : ∃ b_ : Bool, b_ = (rdOf false x7_2 (rd t174 x11_2)) := ⟨_, rfl⟩
          replace H : (if (bq82 = true) then (spec_l3Apart.l1 k2 a1 a2 x7_2 x8_2 x9_1 t174 (wrap64 (x11_2 + 1)) a0_0 a0_1 l0_2) else (if x8_2.length < 17592186044416 then (spec_l3Apart.l1 k2 a1 a2 (x7_2.set ((rd t174 x11_2) : Int).toNat true) (x8_2 ++ [rd t174 x11_2]) x9_1 t174 (wrap64 (x11_2 + 1)) a0_0 a0_1 l0_2) else (none))) = some r := by rw [← hbq82] at H; exact H
          have Nbq82 := Aside0.mk hbq82
          clear hbq82
          by_cases c83 : (bq82 = true)
          {
          subst c83
          have H1 : (spec_l3Apart.l1 k2 a1 a2 x7_2 x8_2 x9_1 t174 (wrap64 (x11_2 + 1)) a0_0 a0_1 l0_2) = some r := by rw [if_pos rfl] at H; exact H
          clear H
          have H := H1
          clear H1
          have H' := Aside0.mk H
          clear H
          obtain ⟨Ao84, co84, eo84⟩ := Kd.R_slice HO_10.out
          subst eo84
          obtain ⟨Ao85, co85, eo85⟩ := Kd.R_slice HO_8.out
          subst eo85
          have p177 : 0 ≤ (x9_1 : Int) := of_decide_eq_true qz1
          have q177 : x9_1 < (x8_2.length : Int) := of_decide_eq_true qz1
          obtain ⟨ad177, e177, hx177_0⟩ := Kd.at_int (Kd.R_reads' HO_8.out).2.2 x9_1 p177 q177
          cases e177
          replace p177 := eq_true p177
          replace q177 := eq_true q177
          have p197 : 0 ≤ (x9_1 : Int) := of_decide_eq_true qz1
          have q197 : x9_1 < (x8_2.length : Int) := of_decide_eq_true qz1
          obtain ⟨ad197, e197, hx197_0⟩ := Kd.at_int (Kd.R_reads' HO_8.out).2.2 x9_1 p197 q197
          obtain rfl : ad177 = ad197 := (by injection e197)
          replace p197 := eq_true p197
          replace q197 := eq_true q197
          have p207 : 0 ≤ (x11_2 : Int) := of_decide_eq_true qz1
          have q207 : x11_2 < (t174.length : Int) := of_decide_eq_true qz1
          obtain ⟨ad207, e207, hx207_0⟩ := Kd.at_int (Kd.R_reads' HO_10.out).2.2 x11_2 p207 q207
          cases e207
          replace p207 := eq_true p207
          replace q207 := eq_true q207
          have p208 : 0 ≤ ((rd t174 x11_2) : Int) := of_decide_eq_true qz1
          have q208 : (rd t174 x11_2) < (x7_2.length : Int) := of_decide_eq_true qz1
          obtain ⟨ad208, e208, hx208_0⟩ := Kd.at_bool (Kd.R_reads' HO_7.out).2.2 (rd t174 x11_2) p208 q208
          (try rw [← Nbq82.out] at hx208_0)
          obtain rfl : (⟨go8, 0, none⟩ : Addr) = ad208 := (by injection e208)
          (first | simp only [add_plain] at hx208_0 | simp only [add_at] at hx208_0 | simp only [Addr.add, Nat.zero_add] at hx208_0 | skip)
          replace p208 := eq_true p208
          replace q208 := eq_true q208
          go_wp2
          (try simp only [← hl7_2])
          go_roundg k2
          case measure => have := HK1.out; have := HK2.out; omega
          case rel => exact ⟨(x7_2), (x8_2), (wrap64 (x11_2 + 1)), qz6, H', ⟨by have := HK1.out; have := HK2.out; omega⟩, ⟨by (try simp only [hl7_1]); (try simp only [hl7_2]); (with_reducible repeat (first | apply Kd.R_alloc | apply Kd.R_drewN | apply Kd.R_drew)); (first | exact HO_7.out | exact Kd.R_mono HO_7.out (fun _ h_ => h_.1) | exact Kd.R_mono HO_7.out (fun _ h_ => h_.2))⟩, ⟨by (try simp only [hl7_1]); (try simp only [hl7_2]); (with_reducible repeat (first | apply Kd.R_alloc | apply Kd.R_drewN | apply Kd.R_drew)); (first | exact HO_8.out | exact Kd.R_mono HO_8.out (fun _ h_ => h_.1) | exact Kd.R_mono HO_8.out (fun _ h_ => h_.2))⟩, ⟨by (try simp only [hl7_1]); (try simp only [hl7_2]); (with_reducible repeat (first | apply Kd.R_alloc | apply Kd.R_drewN | apply Kd.R_drew)); (first | exact HO_10.out | exact Kd.R_mono HO_10.out (fun _ h_ => h_.1) | exact Kd.R_mono HO_10.out (fun _ h_ => h_.2))⟩, ⟨by (try simp only [hl7_1]); (try simp only [hl7_2]); (with_reducible repeat (first | refine blk_drewN ?_ _ | refine blk_drew ?_ | refine blk_alloc ?_ _)); exact BK164.out⟩, ⟨by repeat (first | (with_reducible first | exact HB.out | apply below_alloc | apply pw_below_drewN | apply below_drew1 | refine below_set ?_ GE164.out) | exact HB.out)⟩⟩
          }
          {
          replace c83 := Bool.eq_false_iff.mpr c83
          subst c83
          have H1 : (if x8_2.length < 17592186044416 then (spec_l3Apart.l1 k2 a1 a2 (x7_2.set ((rd t174 x11_2) : Int).toNat true) (x8_2 ++ [rd t174 x11_2]) x9_1 t174 (wrap64 (x11_2 + 1)) a0_0 a0_1 l0_2) else (none)) = some r := by rw [if_neg (show ¬ (false = true) by decide)] at H; exact H
          clear H
          have H := H1
          clear H1
          obtain ⟨y210, hy210⟩ : ∃ y_ : List Bool, y_ = (x7_2.set ((rd t174 x11_2) : Int).toNat true) := ⟨_, rfl⟩
          replace H : (if x8_2.length < 17592186044416 then (spec_l3Apart.l1 k2 a1 a2 y210 (x8_2 ++ [rd t174 x11_2]) x9_1 t174 (wrap64 (x11_2 + 1)) a0_0 a0_1 l0_2) else (none)) = some r := by first | (rw [hy210]; with_reducible exact H) | (have H2_ := (Option.bind_some _ _).symm.trans H; rw [hy210]; with_reducible exact H2_) | (have H2_ := (Option.bind_some _ _).symm.trans H; with_reducible exact H2_) | with_reducible exact H | (rw [hy210]; exact H) | exact H
          have Ny210 := Aside0.mk hy210
          clear hy210
          by_cases c87 : x8_2.length < 17592186044416
          {
          rw [if_pos c87] at H
          have LMc87 := Aside0.mk c87
          clear c87
          obtain ⟨y212, hy212⟩ : ∃ y_ : List Int, y_ = (x8_2 ++ [rd t174 x11_2]) := ⟨_, rfl⟩
          replace H : (spec_l3Apart.l1 k2 a1 a2 y210 y212 x9_1 t174 (wrap64 (x11_2 + 1)) a0_0 a0_1 l0_2) = some r := by first | (rw [hy212]; with_reducible exact H) | (have H2_ := (Option.bind_some _ _).symm.trans H; rw [hy212]; with_reducible exact H2_) | (have H2_ := (Option.bind_some _ _).symm.trans H; with_reducible exact H2_) | with_reducible exact H | (rw [hy212]; exact H) | exact H
          have Ny212 := Aside0.mk hy212
          clear hy212
          have H' := Aside0.mk H
          clear H
          obtain ⟨Ao88, co88, eo88⟩ := Kd.R_slice HO_10.out
          subst eo88
          obtain ⟨Ao89, co89, eo89⟩ := Kd.R_slice HO_8.out
          subst eo89
          have p177 : 0 ≤ (x9_1 : Int) := of_decide_eq_true qz1
          have q177 : x9_1 < (x8_2.length : Int) := of_decide_eq_true qz1
          obtain ⟨ad177, e177, hx177_0⟩ := Kd.at_int (Kd.R_reads' HO_8.out).2.2 x9_1 p177 q177
          cases e177
          replace p177 := eq_true p177
          replace q177 := eq_true q177
          have p197 : 0 ≤ (x9_1 : Int) := of_decide_eq_true qz1
          have q197 : x9_1 < (x8_2.length : Int) := of_decide_eq_true qz1
          obtain ⟨ad197, e197, hx197_0⟩ := Kd.at_int (Kd.R_reads' HO_8.out).2.2 x9_1 p197 q197
          obtain rfl : ad177 = ad197 := (by injection e197)
          replace p197 := eq_true p197
          replace q197 := eq_true q197
          have p207 : 0 ≤ (x11_2 : Int) := of_decide_eq_true qz1
          have q207 : x11_2 < (t174.length : Int) := of_decide_eq_true qz1
          obtain ⟨ad207, e207, hx207_0⟩ := Kd.at_int (Kd.R_reads' HO_10.out).2.2 x11_2 p207 q207
          cases e207
          replace p207 := eq_true p207
          replace q207 := eq_true q207
          have p208 : 0 ≤ ((rd t174 x11_2) : Int) := of_decide_eq_true qz1
          have q208 : (rd t174 x11_2) < (x7_2.length : Int) := of_decide_eq_true qz1
          obtain ⟨ad208, e208, hx208_0⟩ := Kd.at_bool (Kd.R_reads' HO_7.out).2.2 (rd t174 x11_2) p208 q208
          (try rw [← Nbq82.out] at hx208_0)
          obtain rfl : (⟨go8, 0, none⟩ : Addr) = ad208 := (by injection e208)
          (first | simp only [add_plain] at hx208_0 | simp only [add_at] at hx208_0 | simp only [Addr.add, Nat.zero_add] at hx208_0 | skip)
          replace p208 := eq_true p208
          replace q208 := eq_true q208
          have p209 : 0 ≤ (x11_2 : Int) := of_decide_eq_true qz1
          have q209 : x11_2 < (t174.length : Int) := of_decide_eq_true qz1
          obtain ⟨ad209, e209, hx209_0⟩ := Kd.at_int (Kd.R_reads' HO_10.out).2.2 x11_2 p209 q209
          obtain rfl : ad207 = ad209 := (by injection e209)
          replace p209 := eq_true p209
          replace q209 := eq_true q209
          have p86 : 0 ≤ ((rd t174 x11_2) : Int) := of_decide_eq_true qz1
          have q86 : ((rd t174 x11_2) : Int) < ((x7_2.length : Int) : Int) := of_decide_eq_true qz1
          obtain ⟨hx86_0, hf86_0⟩ := Kd.R_celln false HO_7.out ((rd t174 x11_2) : Int) p86 q86
          replace p86 := eq_true p86
          replace q86 := eq_true q86
          obtain ⟨hy90_, hz90_⟩ := Kd.R_celln false HO_7.out ((rd t174 x11_2) : Int) (of_decide_eq_true qz1) (of_decide_eq_true qz1)
          have HP90 := Kd.R_putg HO_7.out ((rd t174 x11_2) : Int) true
          go_wp2_with (first | ((with_reducible refine gate_store (t := 4) (p := 87) rfl ?_); refine store_event (t := 4) (p := 87) (v := ?vo_w91) (w1 := (wr.setCell ⟨go8, ((rd t174 x11_2) : Int).toNat, none⟩ (.bool true))) ?hg ?ho ?hn ?hr ?_; (case ho => rfl); (case hg => rfl); (case hn => rfl); (case hr => first | (go_simp; done) | (go_simp; rfl)); intro w91 hw; have hg : wr.grownBy w91 (some go8) := (by rw [hw]; exact HP90.2); have hp_ : Kd.R Kd.bool 4 w91 w.heap.size (fun _ => True) (.slice (some ⟨go8, 0, none⟩) x7_2.length co8) y210 := (by rw [hw, Ny210.out]; exact HP90.1); clear HP90; have n0_ := Aside0.mk (hp_); have n1_ := Aside0.mk (Kd.R_over' (v := (.slice (some ⟨go8, 0, none⟩) x7_2.length co8)) qz12 (Kd.R_typed HO_7.out) (by decide) hg); have n2_ := Aside0.mk (Kd.R_over' (v := (.slice (some ⟨go8, 0, none⟩) x7_2.length co8)) (by (with_reducible repeat (first | apply Kd.R_alloc | apply Kd.R_drewN | apply Kd.R_drew)); exact HO_10.out) (Kd.R_typed HO_7.out) (by decide) hg); have n3_ := Aside0.mk (blk_grown (g := gb164) (o := .cells #[.int .i64 a0_0, .int .i64 a0_1, .slice A0_2 l0_2.length c0_2] 27 (0, 0)) (by (with_reducible repeat (first | refine blk_drewN ?_ _ | refine blk_drew ?_ | refine blk_alloc ?_ _)); exact BK164.out) hg (Kd.R_ne HO_7.out BK164.out (by decide))); have n4_ := Aside0.mk ((by rw [hw]; exact below_set (HB.out) GB8.out : Below w.heap.size w w91)); clear HO_7; clear HO_8; clear HO_10; clear BK164; clear HB; have HO_7 := n0_; have HO_8 := n1_; have HO_10 := n2_; have BK164 := n3_; have HB := n4_; clear n0_ n1_ n2_ n3_ n4_; clear hg hw hp_; have p211 : 0 ≤ (x11_2 : Int) := of_decide_eq_true qz1; have q211 : x11_2 < (t174.length : Int) := of_decide_eq_true qz1; obtain ⟨ad211, e211, hx211_0⟩ := Kd.at_int (Kd.R_reads' HO_10.out).2.2 x11_2 p211 q211; obtain rfl : ad207 = ad211 := (by injection e211); replace p211 := eq_true p211; replace q211 := eq_true q211) | ((with_reducible refine gate_builtin (b := .append) (xs := #[.tmp 88, .tmp 93]) rfl ?_); at_builtin; refine Kd.R_append (Kd.int .i64) (w0 := w) w.heap.size rfl (.tmp 88) (.tmp 93) 22 3 (.int .i64 0) 8 rfl Try.underlying22 info3 rfl (by decide) (by omega) (.slice (some ad177) x8_2.length co89) x8_2 (rd t174 x11_2) [.int .i64 (rd t174 x11_2)] (fun k_ => some k_ ≠ (.slice (some ad207) t174.length co88 : Value).ownBlock) (fun _ => False) rfl rfl ?aP (fun _ hk => hk.elim) ?aF ?aO ?aB ?aS ?aL ?_; (case aP => exact rfl); (case aB => exact qz8); (case aF => exact (fun k_ hk => Kd.fresh' (Kd.R_lt (by (with_reducible repeat (first | apply Kd.R_alloc | apply Kd.R_drewN | apply Kd.R_drew)); exact HO_10.out)) k_ hk)); (case aO => exact qz12); (case aS => exact (below_size qz8)); (case aL => have := LMc87.out; omega); intro v213 w92 ho hb hg hat; rw [← Ny212.out] at ho; have n0_ := Aside0.mk (Kd.R_over' qz17 (Kd.R_typed qz12) (by decide) hg); have n1_ := Aside0.mk (Kd.R_after (ok := (fun _ => True)) (by (with_reducible repeat (first | apply Kd.R_alloc | apply Kd.R_drewN | apply Kd.R_drew)); exact Kd.R_mono HO_10.out (fun _ hk => ⟨trivial, hk⟩)) hg hat); have n2_ := Aside0.mk (blk_grown (g := gb164) (o := .cells #[.int .i64 a0_0, .int .i64 a0_1, .slice A0_2 l0_2.length c0_2] 27 (0, 0)) (by (with_reducible repeat (first | refine blk_drewN ?_ _ | refine blk_drew ?_ | refine blk_alloc ?_ _)); exact BK164.out) hg (Kd.R_ne HO_8.out BK164.out (by decide))); have n3_ := Aside0.mk (hb); have n4_ := Aside0.mk (ho); clear HO_7; clear HO_10; clear BK164; clear HB; clear HO_8; have HO_7 := n0_; have HO_10 := n1_; have BK164 := n2_; have HB := n3_; have HO214 := n4_; clear n0_ n1_ n2_ n3_ n4_; clear ho hb hg hat))
          (try simp only [← hl7_2])
          go_roundg k2
          case measure => have := HK1.out; have := HK2.out; omega
          case rel => exact ⟨(y210), (y212), (wrap64 (x11_2 + 1)), qz6, H', ⟨by have := HK1.out; have := HK2.out; omega⟩, ⟨by (try simp only [hl7_1]); (try simp only [hl7_2]); (with_reducible repeat (first | apply Kd.R_alloc | apply Kd.R_drewN | apply Kd.R_drew)); (first | exact HO_7.out | exact Kd.R_mono HO_7.out (fun _ h_ => h_.1) | exact Kd.R_mono HO_7.out (fun _ h_ => h_.2))⟩, ⟨by (try simp only [hl7_1]); (try simp only [hl7_2]); (with_reducible repeat (first | apply Kd.R_alloc | apply Kd.R_drewN | apply Kd.R_drew)); (first | exact HO214.out | exact Kd.R_mono HO214.out (fun _ h_ => h_.1) | exact Kd.R_mono HO214.out (fun _ h_ => h_.2))⟩, ⟨by (try simp only [hl7_1]); (try simp only [hl7_2]); (with_reducible repeat (first | apply Kd.R_alloc | apply Kd.R_drewN | apply Kd.R_drew)); exact Kd.R_mono HO_10.out (fun _ hk => hk.2)⟩, ⟨by (try simp only [hl7_1]); (try simp only [hl7_2]); (with_reducible repeat (first | refine blk_drewN ?_ _ | refine blk_drew ?_ | refine blk_alloc ?_ _)); exact BK164.out⟩, ⟨by repeat (first | (with_reducible first | exact HB.out | apply below_alloc | apply pw_below_drewN | apply below_drew1 | refine below_set ?_ GE164.out) | exact HB.out)⟩⟩
          }
          {
          rw [if_neg c87] at H
          exact absurd H (by simp)
          }
          }
          }
          {
          rw [if_neg c81] at H
          exact absurd H (by simp)
          }
          }
          {
          rw [if_neg c80] at H
          exact absurd H (by simp)
          }
          }
          {
          rw [if_neg c79] at H
          exact absurd H (by simp)
          }
          }
          }
          }
          {
          rw [if_neg c25] at H
          exact absurd H (by simp)
          }
          }
          {
          rw [if_neg c24] at H
          exact absurd H (by simp)
          }
          }
          {
          rw [if_neg c23] at H
          have c23b0 : decide (x11_2 < (t174.length : Int)) = false := decide_eq_false c23
          (try (have c23b0q7_1 := c23b0; simp only [hl7_1] at c23b0q7_1))
          (try (have c23b0q7_2 := c23b0; simp only [hl7_2] at c23b0q7_2))
          clear c23
          have H' := Aside0.mk H
          clear H
          obtain ⟨Ao93, co93, eo93⟩ := Kd.R_slice HO_10.out
          subst eo93
          go_wp2
          (try simp only [← hl7_1, ← hl7_2])
          go_roundg k2
          case measure => have := HK1.out; have := HK2.out; omega
          case rel => exact ⟨(x7_2), (x8_2), (wrap64 (x9_1 + 1)), qz6, H', ⟨by have := HK1.out; have := HK2.out; omega⟩, ⟨by (try simp only [hl7_1]); (try simp only [hl7_2]); (with_reducible repeat (first | apply Kd.R_alloc | apply Kd.R_drewN | apply Kd.R_drew)); (first | exact HO_7.out | exact Kd.R_mono HO_7.out (fun _ h_ => h_.1) | exact Kd.R_mono HO_7.out (fun _ h_ => h_.2))⟩, ⟨by (try simp only [hl7_1]); (try simp only [hl7_2]); (with_reducible repeat (first | apply Kd.R_alloc | apply Kd.R_drewN | apply Kd.R_drew)); exact Kd.R_mono HO_8.out (fun _ hk => trivial)⟩, ⟨by (try simp only [hl7_1]); (try simp only [hl7_2]); (with_reducible repeat (first | refine blk_drewN ?_ _ | refine blk_drew ?_ | refine blk_alloc ?_ _)); exact BK164.out⟩, ⟨by repeat (first | (with_reducible first | exact HB.out | apply below_alloc | apply pw_below_drewN | apply below_drew1 | refine below_set ?_ GE164.out) | exact HB.out)⟩⟩
          }
      }
      {
      rw [if_neg c18] at H
      exact absurd H (by simp)
      }
      }
      {
      rw [if_neg c17] at H
      have c17b0 : decide (x9_1 < (x8_1.length : Int)) = false := decide_eq_false c17
      (try (have c17b0q7_1 := c17b0; simp only [hl7_1] at c17b0q7_1))
      clear c17
      by_cases c94 : 0 ≤ a2
      {
      rw [if_pos c94] at H
      have c94b0 : decide (0 ≤ a2) = true := decide_eq_true c94
      clear c94
      by_cases c95 : a2 < (x7_1.length : Int)
      {
      rw [if_pos c95] at H
      have c95b0 : decide (a2 < (x7_1.length : Int)) = true := decide_eq_true c95
      (try (have c95b0q7_1 := c95b0; simp only [hl7_1] at c95b0q7_1))
      clear c95
      obtain rfl := Option.some.inj H
      simp only [Option.some.injEq, Prod.mk.injEq] at H
      obtain ⟨rfl⟩ := H
      obtain ⟨Ao96, co96, eo96⟩ := Kd.R_slice HO_8.out
      subst eo96
      have p172 : 0 ≤ (a2 : Int) := of_decide_eq_true qz1
      have q172 : a2 < (x7_1.length : Int) := of_decide_eq_true qz1
      obtain ⟨ad172, e172, hx172_0⟩ := Kd.at_bool (Kd.R_reads' HO_7.out).2.2 a2 p172 q172
      obtain rfl : (⟨go8, 0, none⟩ : Addr) = ad172 := (by injection e172)
      (first | simp only [add_plain] at hx172_0 | simp only [add_at] at hx172_0 | simp only [Addr.add, Nat.zero_add] at hx172_0 | skip)
      replace p172 := eq_true p172
      replace q172 := eq_true q172
      go_wp2
      go_ret
      exact ⟨by first | rfl | (simp [errW_none, errW_some] <;> rfl) | (simp [*, errW_none, errW_some] <;> rfl), by repeat (first | (with_reducible first | exact HB.out | apply below_alloc | apply pw_below_drewN | apply below_drew1 | refine below_set ?_ GE164.out) | exact HB.out)⟩
      }
      {
      rw [if_neg c95] at H
      exact absurd H (by simp)
      }
      }
      {
      rw [if_neg c94] at H
      exact absurd H (by simp)
      }
      }
  }
  {
  rw [if_neg c7] at H
  exact absurd H (by simp)
  }
  }
  {
  rw [if_neg c6] at H
  exact absurd H (by simp)
  }
  }
  {
  rw [if_neg c5] at H
  exact absurd H (by simp)
  }
  }
  {
  rw [if_neg c4] at H
  exact absurd H (by simp)

  }
end Go.Proofs.Ytmjpmekckgjcpaa.PFnExactBridges
