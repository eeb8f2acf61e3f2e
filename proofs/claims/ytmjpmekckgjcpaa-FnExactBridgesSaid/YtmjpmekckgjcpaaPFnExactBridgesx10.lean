-- Made by a program of this session out of the translation. Lean checks it.
import Derived.Test.YtmjpmekckgjcpaaPFnExactBridgesx0
import Derived.Test.YtmjpmekckgjcpaaPFnExactBridgesx1
import Derived.Test.YtmjpmekckgjcpaaPFnExactBridgesx5
import Derived.Test.YtmjpmekckgjcpaaPFnExactBridgesx9
namespace Go.Proofs.Ytmjpmekckgjcpaa.PFnExactBridges
open Go.RowKit Go.Proofs.YtmjpmekckgjcpaaW.PrintWords Go.Proofs.YtmjpmekckgjcpaaW.PrintLast Go.Proofs.YtmjpmekckgjcpaaW.PrintMore
attribute [local go_sem] max2_int min2_int max_two min_two max_three min_three max_four min_four   -- for this text's walks alone
set_option linter.unusedVariables false
set_option linter.unusedSimpArgs false

/-! ### laws_markIntA2S: function 57 -/
def laws_markIntA2S.st (x0 : List S111) (i v : Int) : List S111 := (x0.set i.toNat ⟨v, (rd_T111 x0 i).f1⟩).set i.toNat ⟨(rd_T111 (x0.set i.toNat ⟨v, (rd_T111 x0 i).f1⟩) i).f0, wrap64 (v + 1)⟩
def laws_markIntA2S.l0 : Nat → List S111 → Int → Int → Option (Int × List S111)
  | 0, _, _, _ => none
  | k + 1, x0, x1, x5 => if x5 < (x0.length : Int) then (if 0 ≤ x5 then (laws_markIntA2S.l0 k (laws_markIntA2S.st x0 x5 x1) (wrap64 ((wrap64 (x1 + 1)) + 1)) (wrap64 (x5 + 1))) else (none)) else (some (x1, x0))
def laws_markIntA2S.f (k : Nat) (l0 : List S111) (a1 : Int) : Option (Int × List S111) := laws_markIntA2S.l0 k l0 a1 0
theorem laws_markIntA2S.mono_l : ∀ k, (∀ y0 y1 y2, LeO (laws_markIntA2S.l0 k y0 y1 y2) (laws_markIntA2S.l0 (k + 1) y0 y1 y2))
  | 0 => fun _ _ _ r h => by simp [laws_markIntA2S.l0] at h
  | k + 1 => by
    have ih0 := laws_markIntA2S.mono_l k
    {
    intro y0 y1 y2
    unfold laws_markIntA2S.l0
    repeat' first
    | (with_reducible exact ih0 _ _ _)
    | (with_reducible exact LeO.refl _)
    | (with_reducible exact LeO.none _)
    | (with_reducible refine LeO.ite ?_ ?_)
    | (with_reducible refine LeO.bind ?_ (fun _ => ?_))
    | exact ih0 _ _ _
    | exact LeO.none _
    | refine LeO.ite ?_ ?_
    | refine LeO.bind ?_ (fun _ => ?_)
    }
theorem laws_markIntA2S.mono : ∀ a0 a1 k, LeO (laws_markIntA2S.f k a0 a1) (laws_markIntA2S.f (k + 1) a0 a1) := by
  intro a0 a1 k
  have ih0 := laws_markIntA2S.mono_l k
  unfold laws_markIntA2S.f
  repeat' first
      | (with_reducible exact ih0 _ _ _)
      | (with_reducible exact LeO.refl _)
      | (with_reducible exact LeO.none _)
      | (with_reducible refine LeO.ite ?_ ?_)
      | (with_reducible refine LeO.bind ?_ (fun _ => ?_))
      | exact ih0 _ _ _
      | exact LeO.none _
      | refine LeO.ite ?_ ?_
      | refine LeO.bind ?_ (fun _ => ?_)
set_option maxHeartbeats 8000000 in
set_option maxRecDepth 100000 in
theorem laws_markIntA2S.calls (k : Nat) (P0_ : Nat → Prop) (u9000_ : Value) (l0 : List S111) (a1 : Int) (r1 : Int) (r2 : List S111) (w0 w : World) (hB : Below w0.heap.size w0 w) (ho0 : Kd.R k111 111 w w0.heap.size P0_ u9000_ l0) (h : laws_markIntA2S.f k l0 a1 = some (r1, r2)) :
    Calls Try.prog 57 #[u9000_, .int .i64 a1] w fun e w' => e = .returned (.int .i64 r1) ∧ Kd.R k111 111 w' w0.heap.size (fun k_ => (P0_ k_ ∨ w.heap.size ≤ k_)) u9000_ r2 ∧ Below w0.heap.size w0 w' ∧ Kept w w' (fun k_ => P0_ k_) := by
  have hu70 := Try.underlying70
  have hu111 := Try.underlying111
  have HO0 := Aside0.mk (show Kd.R k111 111 w w0.heap.size (fun k_ => P0_ k_) u9000_ l0 from ho0)
  have HK := Aside0.mk (Kept.refl w (fun k_ => P0_ k_))
  have HB := Aside0.mk hB
  clear hB ho0
  have H' := Aside0.mk (show laws_markIntA2S.l0 k l0 a1 0 = some (r1, r2) from h)
  clear h
  go_enter Try.func57, Try.ntmps57
  go_wp2
  go_loopg [1, 5] k (fun kq v1 v5 w' => ∃ (x0_1 : List S111) (x1_1 : Int) (x5_1 : Int), v1 = .int .i64 x1_1 ∧ v5 = .int .i64 x5_1 ∧ Aside0 (laws_markIntA2S.l0 kq x0_1 x1_1 x5_1 = some (r1, r2)) ∧ Aside0 (kq ≤ k) ∧ Aside0 (Kd.R k111 111 w' w0.heap.size (fun k_ => P0_ k_) u9000_ x0_1) ∧ Aside0 (Kept w w' (fun k_ => P0_ k_)) ∧ Aside0 (Below w0.heap.size w0 w'))
  case atStart => exact ⟨l0, a1, 0, rfl, rfl, H', ⟨Nat.le_refl _⟩, ⟨by (with_reducible repeat (first | apply Kd.R_alloc | apply Kd.R_drewN | apply Kd.R_drew)); exact HO0.out⟩, ⟨by repeat (first | (with_reducible first | exact HK.out | apply Kept.alloc | apply Kept.drewN | apply Kept.drew) | exact HK.out)⟩, ⟨by repeat (first | (with_reducible first | exact HB.out | apply below_alloc | apply pw_below_drewN | apply below_drew1) | exact HB.out)⟩⟩
  case round =>
    clear H'
    try clear p2
    obtain ⟨x0_1, x1_1, x5_1, rfl, rfl, HA, HK1, HO_0, HK, HB⟩ := hrel
    cases gk with
    | zero => exact absurd HA.out (by simp [laws_markIntA2S.l0])
    | succ k1 =>
      have H := HA.out
      clear HA
      simp only [laws_markIntA2S.l0] at H
      obtain ⟨Ao6, co6, eo6⟩ := Kd.R_slice HO_0.out
      subst eo6
      by_cases c3 : x5_1 < (x0_1.length : Int)
      {
      rw [if_pos c3] at H
      have c3b0 : decide (x5_1 < (x0_1.length : Int)) = true := decide_eq_true c3
      by_cases c4 : 0 ≤ x5_1
      {
      rw [if_pos c4] at H
      have H' := Aside0.mk H
      clear H
      obtain ⟨go5, co5, eo5, gb5, gl5, cl5, HG5⟩ := Kd.R_form HO_0.out (by omega)
      (first | cases eo5 | (injection eo5 with ea_ en_ ec_; (first | subst ea_ | (injection ea_ with ea_; subst ea_)); subst ec_; clear en_))
      have GB5 := Aside0.mk gb5
      have GG5 := Aside0.mk HG5
      clear gb5 gl5 HG5
      have p5 := Aside0.mk c4
      have q5 := Aside0.mk c3
      obtain ⟨ce9, hcl9, hM9, hcc9, hfr9⟩ := Kd.R_elem HO_0.out z111 (x5_1 : Int) c4 c3
      obtain rfl := k111_openM hM9
      have hx6_0 : wr.cell? ⟨go5, (x5_1 : Int).toNat * 2, none⟩ = some (.int .i64 ((rd_T111 x0_1 x5_1).f0)) := hcc9 0 _ rfl
      have hf6_0 : wr.frozen? ⟨go5, (x5_1 : Int).toNat * 2, none⟩ = false := hfr9 0
      have HP9 := Kd.R_seg HO_0.out (x5_1 : Int) c4 c3 (seg := [.int .i64 x1_1]) (j := 0) hcl9 hcc9 (show 1 ≤ 2 from by decide) (x' := (⟨x1_1, (rd_T111 x0_1 x5_1).f1⟩ : S111)) (k111_mkM _ _ _ (⟨x1_1, (rd_T111 x0_1 x5_1).f1⟩ : S111)) (fun _ hk => hk)
      replace c3 := eq_true c3
      replace c4 := eq_true c4
      clear hcl9 hcc9 hfr9
      (try clear hM9)
      go_wp2
      refine wp_loop_rounds 3 ?_
      rw [rounds_succ]
      go_wp2
      obtain ⟨HR1, HG1⟩ := HP9
      rw [show wr.setCells go5 (x5_1.toNat * k111.sz + 0) [.int .i64 x1_1] = wr.setCell ⟨go5, x5_1.toNat * 2, none⟩ (.int .i64 x1_1) from rfl] at HR1 HG1
      have HB1 : Below w0.heap.size w0 (wr.setCell ⟨go5, x5_1.toNat * 2, none⟩ (.int .i64 x1_1)) := below_set HB.out GB5.out
      clear hx6_0 hf6_0
      generalize wr.setCell ⟨go5, x5_1.toNat * 2, none⟩ (.int .i64 x1_1) = w1 at HR1 HG1 HB1 ⊢
      have HK2 := Kept.of_grown (S := (fun k_ => P0_ k_)) HG1 HK.out (fun k_ e_ => .inl (HO_0.out.1 k_ e_))
      clear HG1
      obtain ⟨ce8, hcl8, hM8, hcc8, hfr8⟩ := Kd.R_elem HR1 z111 (x5_1 : Int) p5.out (by have := q5.out; have e_ := (Kd.R_reads' HR1).1; omega)
      obtain rfl := k111_openM hM8
      have hx7_1 : w1.cell? ⟨go5, (x5_1 : Int).toNat * 2 + 1, none⟩ = some (.int .i64 ((rd_T111 (x0_1.set x5_1.toNat ⟨x1_1, (rd_T111 x0_1 x5_1).f1⟩) x5_1).f1)) := hcc8 1 _ rfl
      have hf7_1 : w1.frozen? ⟨go5, (x5_1 : Int).toNat * 2 + 1, none⟩ = false := hfr8 1
      have HP8 := Kd.R_seg HR1 (x5_1 : Int) p5.out (by have := q5.out; have e_ := (Kd.R_reads' HR1).1; omega) (seg := [.int .i64 (wrap64 (x1_1 + 1))]) (j := 1) hcl8 hcc8 (show 2 ≤ 2 from by decide) (x' := (⟨(rd_T111 (x0_1.set x5_1.toNat ⟨x1_1, (rd_T111 x0_1 x5_1).f1⟩) x5_1).f0, wrap64 (x1_1 + 1)⟩ : S111)) (k111_mkM _ _ _ (⟨(rd_T111 (x0_1.set x5_1.toNat ⟨x1_1, (rd_T111 x0_1 x5_1).f1⟩) x5_1).f0, wrap64 (x1_1 + 1)⟩ : S111)) (fun _ hk => hk)
      clear hcl8 hcc8 hfr8
      (try clear hM8)
      rw [rounds_succ]
      go_wp2
      obtain ⟨HR2, HG2⟩ := HP8
      rw [show w1.setCells go5 (x5_1.toNat * k111.sz + 1) [.int .i64 (wrap64 (x1_1 + 1))] = w1.setCell ⟨go5, x5_1.toNat * 2 + 1, none⟩ (.int .i64 (wrap64 (x1_1 + 1))) from rfl] at HR2 HG2
      have HB2 : Below w0.heap.size w0 (w1.setCell ⟨go5, x5_1.toNat * 2 + 1, none⟩ (.int .i64 (wrap64 (x1_1 + 1)))) := below_set HB1 GB5.out
      clear hx7_1 hf7_1
      generalize w1.setCell ⟨go5, x5_1.toNat * 2 + 1, none⟩ (.int .i64 (wrap64 (x1_1 + 1))) = w2 at HR2 HG2 HB2 ⊢
      have HK3 := Kept.of_grown (S := (fun k_ => P0_ k_)) HG2 HK2 (fun k_ e_ => .inl (HO_0.out.1 k_ e_))
      rw [rounds_succ]
      go_wp2
      go_roundg k1
      case measure => have := HK1.out; omega
      case rel => exact ⟨laws_markIntA2S.st x0_1 x5_1 x1_1, (wrap64 ((wrap64 (x1_1 + 1)) + 1)), (wrap64 (x5_1 + 1)), rfl, rfl, H', ⟨by have := HK1.out; omega⟩, ⟨by (with_reducible repeat (first | apply Kd.R_alloc | apply Kd.R_drewN | apply Kd.R_drew)); exact HR2⟩, ⟨by repeat (first | (with_reducible first | exact HK3 | apply Kept.alloc | apply Kept.drewN | apply Kept.drew) | exact HK3)⟩, ⟨by repeat (first | (with_reducible first | exact HB2 | apply below_alloc | apply pw_below_drewN | apply below_drew1) | exact HB2)⟩⟩
      }
      {
      rw [if_neg c4] at H
      exact absurd H (by simp)
      }
      }
      {
      rw [if_neg c3] at H
      have c3b0 : decide (x5_1 < (x0_1.length : Int)) = false := decide_eq_false c3
      clear c3
      simp only [Option.some.injEq, Prod.mk.injEq] at H
      obtain ⟨rfl, rfl⟩ := H
      go_wp2
      go_ret
      exact ⟨by first | rfl | (simp; done) | (simp [*]; done), Kd.R_mono (by (with_reducible repeat (first | apply Kd.R_alloc | apply Kd.R_drewN | apply Kd.R_drew)); exact HO_0.out) (fun _ h_ => .inl h_), by repeat (first | (with_reducible first | exact HB.out | apply below_alloc | apply pw_below_drewN | apply below_drew1) | exact HB.out), by repeat (first | (with_reducible first | exact HK.out | apply Kept.alloc | apply Kept.drewN | apply Kept.drew) | exact HK.out)⟩

      }
/-! ### laws_heldIntA2S: function 58 -/
def laws_heldIntA2S.l0 : Nat → List S111 → Int → Int → Option (Int)
  | 0, _, _, _ => none
  | k + 1, x0, x1, x5 => if x5 < (x0.length : Int) then (if 0 ≤ x5 then (if (rd_T111 x0 x5).f0 = x1 then (if (rd_T111 x0 x5).f1 = (wrap64 (x1 + 1)) then (laws_heldIntA2S.l0 k x0 (wrap64 ((wrap64 (x1 + 1)) + 1)) (wrap64 (x5 + 1))) else (some (-1))) else (some (-1))) else (none)) else (some x1)
def laws_heldIntA2S.f (k : Nat) (l0 : List S111) (a1 : Int) : Option (Int) := laws_heldIntA2S.l0 k l0 a1 0
theorem laws_heldIntA2S.mono_l : ∀ k, (∀ y0 y1 y2, LeO (laws_heldIntA2S.l0 k y0 y1 y2) (laws_heldIntA2S.l0 (k + 1) y0 y1 y2))
  | 0 => fun _ _ _ r h => by simp [laws_heldIntA2S.l0] at h
  | k + 1 => by
    have ih0 := laws_heldIntA2S.mono_l k
    {
    intro y0 y1 y2
    unfold laws_heldIntA2S.l0
    repeat' first
    | (with_reducible exact ih0 _ _ _)
    | (with_reducible exact LeO.refl _)
    | (with_reducible exact LeO.none _)
    | (with_reducible refine LeO.ite ?_ ?_)
    | (with_reducible refine LeO.bind ?_ (fun _ => ?_))
    | exact ih0 _ _ _
    | exact LeO.none _
    | refine LeO.ite ?_ ?_
    | refine LeO.bind ?_ (fun _ => ?_)
    }
theorem laws_heldIntA2S.mono : ∀ a0 a1 k, LeO (laws_heldIntA2S.f k a0 a1) (laws_heldIntA2S.f (k + 1) a0 a1) := by
  intro a0 a1 k
  have ih0 := laws_heldIntA2S.mono_l k
  unfold laws_heldIntA2S.f
  repeat' first
      | (with_reducible exact ih0 _ _ _)
      | (with_reducible exact LeO.refl _)
      | (with_reducible exact LeO.none _)
      | (with_reducible refine LeO.ite ?_ ?_)
      | (with_reducible refine LeO.bind ?_ (fun _ => ?_))
      | exact ih0 _ _ _
      | exact LeO.none _
      | refine LeO.ite ?_ ?_
      | refine LeO.bind ?_ (fun _ => ?_)
set_option maxHeartbeats 8000000 in
set_option maxRecDepth 100000 in
theorem laws_heldIntA2S.calls (k : Nat) (A0 : Option Addr) (c0 : Nat) (l0 : List S111) (a1 : Int) (r : Int) (w : World) (hr0 : Kd.C k111 w A0 l0.length l0) (hc0 : l0.length ≤ c0) (h : laws_heldIntA2S.f k l0 a1 = some r) :
    Calls Try.prog 58 #[.slice A0 l0.length c0, .int .i64 a1] w fun e w' => e = .returned (.int .i64 r) ∧ Drawn0 w w' := by
  have hu70 := Try.underlying70
  have hu111 := Try.underlying111
  have HR0 := Aside0.mk hr0
  have HC0 := Aside0.mk hc0
  clear hr0 hc0
  have H' := Aside0.mk (show laws_heldIntA2S.l0 k l0 a1 0 = some r from h)
  clear h
  go_enter Try.func58, Try.ntmps58
  go_wp2
  go_loopg [1, 5] k (fun kq v1 v5 w' => ∃ (x1_1 : Int) (x5_1 : Int), v1 = .int .i64 x1_1 ∧ v5 = .int .i64 x5_1 ∧ Aside0 (laws_heldIntA2S.l0 kq l0 x1_1 x5_1 = some r) ∧ Aside0 (kq ≤ k) ∧ Drawn0 w w')
  case atStart => exact ⟨(a1), (0), rfl, rfl, H', ⟨Nat.le_refl _⟩, by repeat (first | exact Drawn0.refl _ | apply Drawn0.step)⟩
  case round =>
    clear H'
    try clear p2
    obtain ⟨x1_1, x5_1, rfl, rfl, HA, HK1, ⟨m1, rfl⟩⟩ := hrel
    cases gk with
    | zero => exact absurd HA.out (by simp [laws_heldIntA2S.l0])
    | succ k1 =>
      have H := HA.out
      clear HA
      simp only [laws_heldIntA2S.l0] at H
      by_cases c3 : x5_1 < (l0.length : Int)
      {
      rw [if_pos c3] at H
      have c3b0 : decide (x5_1 < (l0.length : Int)) = true := decide_eq_true c3
      by_cases c4 : 0 ≤ x5_1
      {
      rw [if_pos c4] at H
      obtain ⟨ad, e1, hx0, hx1⟩ := at_T111 HR0.out x5_1 c4 c3
      cases e1
      replace c3 := eq_true c3
      replace c4 := eq_true c4
      go_wp2
      refine wp_loop_rounds 3 ?_
      rw [rounds_succ]; go_wp2
      {
      have hn : ((rd_T111 l0 x5_1).f0 != x1_1) = true := by assumption
      rw [if_neg (by simpa using hn)] at H
      obtain rfl := Option.some.inj H
      go_ret
      exact ⟨rfl, by repeat (first | exact Drawn0.refl _ | apply Drawn0.step)⟩
      }
      {
      have hp : ((rd_T111 l0 x5_1).f0 != x1_1) = false := by assumption
      rw [if_pos (by simpa using hp)] at H
      rw [rounds_succ]; go_wp2
      {
      have hn : ((rd_T111 l0 x5_1).f1 != wrap64 (x1_1 + 1)) = true := by assumption
      rw [if_neg (by simpa using hn)] at H
      obtain rfl := Option.some.inj H
      go_ret
      exact ⟨rfl, by repeat (first | exact Drawn0.refl _ | apply Drawn0.step)⟩
      }
      {
      have hp2 : ((rd_T111 l0 x5_1).f1 != wrap64 (x1_1 + 1)) = false := by assumption
      rw [if_pos (by simpa using hp2)] at H
      have H' := Aside0.mk H
      clear H
      rw [rounds_succ]; go_wp2
      go_roundg k1
      case measure => have := HK1.out; omega
      case rel => exact ⟨(wrap64 ((wrap64 (x1_1 + 1)) + 1)), (wrap64 (x5_1 + 1)), rfl, rfl, H', ⟨by have := HK1.out; omega⟩, by repeat (first | exact Drawn0.refl _ | apply Drawn0.step)⟩
      }
      }
      }
      {
      rw [if_neg c4] at H
      exact absurd H (by simp)
      }
      }
      {
      rw [if_neg c3] at H
      have c3b0 : decide (x5_1 < (l0.length : Int)) = false := decide_eq_false c3
      clear c3
      obtain rfl := Option.some.inj H
      go_wp2
      go_ret
      exact ⟨by first | rfl | (simp; done) | (simp [*]; done), by repeat (first | exact Drawn0.refl _ | apply Drawn0.step)⟩

      }
/-! ### laws_FnExactBridges: function 13 -/
def laws_FnExactBridges.j0 : Nat → List (S111) → List (S111) → Bool → Int → Int → List Int → Option (Bool)
  | 0, _, _, _, _, _, _ => none
  | k + 1, x4, x6, x42, x313000, x313001, x313002 => if x42 = true then (some false) else ((laws_markIntA2S.f k x6 1).bind fun bt341 => ((laws_heldIntA2S.f k bt341.2 1).bind fun t343 => (if t343 < 0 then (some false) else (if t343 = bt341.1 then ((laws_toFloor.f k x313000 x313001 x313002).bind fun bt344 => ((impl_Bridges.f k bt344.1 bt344.2.1 bt344.2.2).bind fun t349 => ((laws_eqIntA2S.f k t349 x4).bind fun t352 => (if t352 = true then ((laws_heldIntA2S.f k bt341.2 1).bind fun t353 => (if t353 < 0 then (some false) else (if t353 = bt341.1 then (some true) else (some false)))) else (some false))))) else (some false)))))
def laws_FnExactBridges.f (k : Nat) (a0_0 : Int) (a0_1 : Int) (l0_2 : List Int) : Option (Bool) := (laws_szFloor.f a0_0 a0_1 l0_2 1048576).bind fun t313 => (if t313 < 0 then (some true) else ((laws_toFloor.f k a0_0 a0_1 l0_2).bind fun bt314 => ((spec_Bridges.f k bt314.1 bt314.2.1 bt314.2.2).bind fun t319 => ((laws_toFloor.f k a0_0 a0_1 l0_2).bind fun bt322 => ((impl_Bridges.f k bt322.1 bt322.2.1 bt322.2.2).bind fun t328 => ((laws_eqIntA2S.f k t328 t319).bind fun t331 => (if t331 = true then ((laws_toFloor.f k a0_0 a0_1 l0_2).bind fun bt332 => ((laws_eqFloor.f k bt322.1 bt322.2.1 bt322.2.2 bt332.1 bt332.2.1 bt332.2.2).bind fun t337 => (if t337 = true then ((laws_markFloor.f k bt322.1 bt322.2.1 bt322.2.2 1).bind fun bt338 => (if bt338.1 < 0 then (laws_FnExactBridges.j0 k t319 t328 true a0_0 a0_1 l0_2) else ((laws_eqIntA2S.f k t328 t319).bind fun t340 => (laws_FnExactBridges.j0 k t319 t328 (!t340) a0_0 a0_1 l0_2)))) else (some false)))) else (some false))))))))
theorem laws_FnExactBridges.mono_l : ∀ k, (∀ y0 y1 y2 y3 y4 y5, LeO (laws_FnExactBridges.j0 k y0 y1 y2 y3 y4 y5) (laws_FnExactBridges.j0 (k + 1) y0 y1 y2 y3 y4 y5))
  | 0 => fun _ _ _ _ _ _ r h => by simp [laws_FnExactBridges.j0] at h
  | k + 1 => by
    have ih0 := laws_FnExactBridges.mono_l k
    {
    intro y0 y1 y2 y3 y4 y5
    unfold laws_FnExactBridges.j0
    repeat' first
    | (with_reducible exact ih0 _ _ _ _ _ _)
    | (with_reducible exact impl_Bridges.mono _ _ _ _)
    | (with_reducible exact laws_eqFloor.mono _ _ _ _ _ _ _)
    | (with_reducible exact laws_eqIntA2S.mono _ _ _)
    | (with_reducible exact laws_heldIntA2S.mono _ _ _)
    | (with_reducible exact laws_markFloor.mono _ _ _ _ _)
    | (with_reducible exact laws_markIntA2S.mono _ _ _)
    | (with_reducible exact laws_toFloor.mono _ _ _ _)
    | (with_reducible exact spec_Bridges.mono _ _ _ _)
    | (with_reducible exact LeO.refl _)
    | (with_reducible exact LeO.none _)
    | (with_reducible refine LeO.ite ?_ ?_)
    | (with_reducible refine LeO.bind ?_ (fun _ => ?_))
    | exact ih0 _ _ _ _ _ _
    | exact impl_Bridges.mono _ _ _ _
    | exact laws_eqFloor.mono _ _ _ _ _ _ _
    | exact laws_eqIntA2S.mono _ _ _
    | exact laws_heldIntA2S.mono _ _ _
    | exact laws_markFloor.mono _ _ _ _ _
    | exact laws_markIntA2S.mono _ _ _
    | exact laws_toFloor.mono _ _ _ _
    | exact spec_Bridges.mono _ _ _ _
    | exact LeO.none _
    | refine LeO.ite ?_ ?_
    | refine LeO.bind ?_ (fun _ => ?_)
    }
theorem laws_FnExactBridges.mono : ∀ a0 a1 a2 k, LeO (laws_FnExactBridges.f k a0 a1 a2) (laws_FnExactBridges.f (k + 1) a0 a1 a2) := by
  intro a0 a1 a2 k
  have ih0 := laws_FnExactBridges.mono_l k
  unfold laws_FnExactBridges.f
  repeat' first
      | (with_reducible exact ih0 _ _ _ _ _ _)
      | (with_reducible exact impl_Bridges.mono _ _ _ _)
      | (with_reducible exact laws_eqFloor.mono _ _ _ _ _ _ _)
      | (with_reducible exact laws_eqIntA2S.mono _ _ _)
      | (with_reducible exact laws_heldIntA2S.mono _ _ _)
      | (with_reducible exact laws_markFloor.mono _ _ _ _ _)
      | (with_reducible exact laws_markIntA2S.mono _ _ _)
      | (with_reducible exact laws_toFloor.mono _ _ _ _)
      | (with_reducible exact spec_Bridges.mono _ _ _ _)
      | (with_reducible exact LeO.refl _)
      | (with_reducible exact LeO.none _)
      | (with_reducible refine LeO.ite ?_ ?_)
      | (with_reducible refine LeO.bind ?_ (fun _ => ?_))
      | exact ih0 _ _ _ _ _ _
      | exact impl_Bridges.mono _ _ _ _
      | exact laws_eqFloor.mono _ _ _ _ _ _ _
      | exact laws_eqIntA2S.mono _ _ _
      | exact laws_heldIntA2S.mono _ _ _
      | exact laws_markFloor.mono _ _ _ _ _
      | exact laws_markIntA2S.mono _ _ _
      | exact laws_toFloor.mono _ _ _ _
      | exact spec_Bridges.mono _ _ _ _
      | exact LeO.none _
      | refine LeO.ite ?_ ?_
      | refine LeO.bind ?_ (fun _ => ?_)
set_option maxHeartbeats 8000000 in
set_option maxRecDepth 100000 in
theorem laws_FnExactBridges.calls (k : Nat) (a0_0 : Int) (a0_1 : Int) (A0_2 : Option Addr) (c0_2 : Nat) (l0_2 : List Int) (r : Bool) (w : World) (hr0_2 : Kd.C (Kd.int .i64) w A0_2 l0_2.length l0_2) (hc0_2 : l0_2.length ≤ c0_2) (hT : r = true) (h : laws_FnExactBridges.f k a0_0 a0_1 l0_2 = some r) :
    Calls Try.prog 13 #[.agg #[.int .i64 a0_0, .int .i64 a0_1, .slice A0_2 l0_2.length c0_2]] w fun e w' => e = .returned (.bool r) ∧ Below w.heap.size w w' := by
  have HTR_ := Aside0.mk hT
  clear hT
  have hu24 := Try.underlying24
  have hu27 := Try.underlying27
  have HR0_2 := Aside0.mk hr0_2
  have HC0_2 := Aside0.mk hc0_2
  clear hr0_2 hc0_2
  have HB := Aside0.mk (Below.refl w.heap.size w)
  have H : ((laws_szFloor.f a0_0 a0_1 l0_2 1048576).bind fun t313 => (if t313 < 0 then (some true) else ((laws_toFloor.f k a0_0 a0_1 l0_2).bind fun bt314 => ((spec_Bridges.f k bt314.1 bt314.2.1 bt314.2.2).bind fun t319 => ((laws_toFloor.f k a0_0 a0_1 l0_2).bind fun bt322 => ((impl_Bridges.f k bt322.1 bt322.2.1 bt322.2.2).bind fun t328 => ((laws_eqIntA2S.f k t328 t319).bind fun t331 => (if t331 = true then ((laws_toFloor.f k a0_0 a0_1 l0_2).bind fun bt332 => ((laws_eqFloor.f k bt322.1 bt322.2.1 bt322.2.2 bt332.1 bt332.2.1 bt332.2.2).bind fun t337 => (if t337 = true then ((laws_markFloor.f k bt322.1 bt322.2.1 bt322.2.2 1).bind fun bt338 => (if bt338.1 < 0 then (laws_FnExactBridges.j0 k t319 t328 true a0_0 a0_1 l0_2) else ((laws_eqIntA2S.f k t328 t319).bind fun t340 => (laws_FnExactBridges.j0 k t319 t328 (!t340) a0_0 a0_1 l0_2)))) else (some false)))) else (some false))))))))) = some r := h
  clear h
  replace H := Option.bind_eq_some_iff.mp H
  obtain ⟨t313, A20, H⟩ := H
  replace H : (if t313 < 0 then (some true) else ((laws_toFloor.f k a0_0 a0_1 l0_2).bind fun bt314 => ((spec_Bridges.f k bt314.1 bt314.2.1 bt314.2.2).bind fun t319 => ((laws_toFloor.f k a0_0 a0_1 l0_2).bind fun bt322 => ((impl_Bridges.f k bt322.1 bt322.2.1 bt322.2.2).bind fun t328 => ((laws_eqIntA2S.f k t328 t319).bind fun t331 => (if t331 = true then ((laws_toFloor.f k a0_0 a0_1 l0_2).bind fun bt332 => ((laws_eqFloor.f k bt322.1 bt322.2.1 bt322.2.2 bt332.1 bt332.2.1 bt332.2.2).bind fun t337 => (if t337 = true then ((laws_markFloor.f k bt322.1 bt322.2.1 bt322.2.2 1).bind fun bt338 => (if bt338.1 < 0 then (laws_FnExactBridges.j0 k t319 t328 true a0_0 a0_1 l0_2) else ((laws_eqIntA2S.f k t328 t319).bind fun t340 => (laws_FnExactBridges.j0 k t319 t328 (!t340) a0_0 a0_1 l0_2)))) else (some false)))) else (some false)))))))) = some r := H
  have A2 := Aside0.mk A20
  clear A20
  by_cases c3 : t313 < 0
  {
  rw [if_pos c3] at H
  have c3b0 : decide (t313 < 0) = true := decide_eq_true c3
  clear c3
  obtain rfl := Option.some.inj H
  simp only [Option.some.injEq, Prod.mk.injEq] at H
  obtain ⟨rfl⟩ := H
  go_enter Try.func13, Try.ntmps13
  go_wp2_with (first | ((with_reducible refine gate_dst (N := 1) rfl ?_); refine box_event ?hg (N := 1) ?hd (cs := #[.int .i64 a0_0, .int .i64 a0_1, .slice A0_2 l0_2.length c0_2]) (t := 24) ?hr ?_; (case hd => rfl); (case hg => rfl); (case hr => first | (go_simp; done) | (go_simp; rfl)); intro gb312 hg w4 hbox hb; have n0_ := Aside0.mk (below_step qz2 hb); have n1_ := Aside0.mk (hbox); have n2_ := Aside0.mk ((by rw [hg]; exact (below_size qz2) : w.heap.size ≤ gb312)); have n3_ := Aside0.mk ((by rw [hg]; exact (below_size qz2) : w.heap.size ≤ gb312)); clear HB; have HB := n0_; have BK312 := n1_; have GW312 := n2_; have GE312 := n3_; clear n0_ n1_ n2_ n3_; clear hb hbox hg; have hcz5_0 : w4.cell? ⟨gb312, 0, none⟩ = some (.int .i64 a0_0) := (blk_cell BK312.out 0).trans rfl; have hcz5_1 : w4.cell? ⟨gb312, 1, none⟩ = some (.int .i64 a0_1) := (blk_cell BK312.out 1).trans rfl; have hcz5_2 : w4.cell? ⟨gb312, 2, none⟩ = some (.slice A0_2 l0_2.length c0_2) := (blk_cell BK312.out 2).trans rfl; have hfz5_0 := blk_frozen BK312.out 0; have hfz5_1 := blk_frozen BK312.out 1; have hfz5_2 := blk_frozen BK312.out 2) | ((with_reducible refine gate_callee (f := 15) rfl ?_); refine goesL_ (some 13) rfl rfl Try.func15 (by kernel_rfl) rfl #[.agg #[.int .i64 a0_0, .int .i64 a0_1, .slice A0_2 l0_2.length c0_2], .int .i64 1048576] rfl qz3 ?_; (with_reducible refine (laws_szFloor.calls a0_0 a0_1 _ _ l0_2 1048576 t313 _ ?side1 ?side2 A2.out).mono ?_); (case side1 => repeat (first | exact (Kd.C_below HR0_2.out HB.out) | (with_reducible refine Kd.C_alloc ?_ _) | (with_reducible refine Kd.C_drewN ?_ _) | (with_reducible refine Kd.C_drew ?_))); (case side2 => exact HC0_2.out); rintro e w6 ⟨rfl, hb⟩; refine ⟨_, rfl, ?_⟩; have n0_ := Aside0.mk (blk_below (g := gb312) (o := .cells #[.int .i64 a0_0, .int .i64 a0_1, .slice A0_2 l0_2.length c0_2] 24 (0, 0)) qz13 hb); have n1_ := Aside0.mk (below_step qz18 hb); clear BK312; clear HB; have BK312 := n0_; have HB := n1_; clear n0_ n1_; (try clear hb); (try clear hb2); (try clear hk); (try clear hi)))
  go_ret
  exact ⟨by first | rfl | (simp [errW_none, errW_some] <;> rfl) | (simp [*, errW_none, errW_some] <;> rfl), by repeat (first | (with_reducible first | exact HB.out | apply below_alloc | apply pw_below_drewN | apply below_drew1 | refine below_set ?_ GE312.out) | exact HB.out)⟩
  }
  {
  rw [if_neg c3] at H
  have c3b0 : decide (t313 < 0) = false := decide_eq_false c3
  clear c3
  replace H := Option.bind_eq_some_iff.mp H
  obtain ⟨⟨t314, t315, t316⟩, A70, H⟩ := H
  replace H : ((spec_Bridges.f k t314 t315 t316).bind fun t319 => ((laws_toFloor.f k a0_0 a0_1 l0_2).bind fun bt322 => ((impl_Bridges.f k bt322.1 bt322.2.1 bt322.2.2).bind fun t328 => ((laws_eqIntA2S.f k t328 t319).bind fun t331 => (if t331 = true then ((laws_toFloor.f k a0_0 a0_1 l0_2).bind fun bt332 => ((laws_eqFloor.f k bt322.1 bt322.2.1 bt322.2.2 bt332.1 bt332.2.1 bt332.2.2).bind fun t337 => (if t337 = true then ((laws_markFloor.f k bt322.1 bt322.2.1 bt322.2.2 1).bind fun bt338 => (if bt338.1 < 0 then (laws_FnExactBridges.j0 k t319 t328 true a0_0 a0_1 l0_2) else ((laws_eqIntA2S.f k t328 t319).bind fun t340 => (laws_FnExactBridges.j0 k t319 t328 (!t340) a0_0 a0_1 l0_2)))) else (some false)))) else (some false)))))) = some r := H
  have A7 := Aside0.mk A70
  clear A70
  replace H := Option.bind_eq_some_iff.mp H
  obtain ⟨t319, A80, H⟩ := H
  replace H : ((laws_toFloor.f k a0_0 a0_1 l0_2).bind fun bt322 => ((impl_Bridges.f k bt322.1 bt322.2.1 bt322.2.2).bind fun t328 => ((laws_eqIntA2S.f k t328 t319).bind fun t331 => (if t331 = true then ((laws_toFloor.f k a0_0 a0_1 l0_2).bind fun bt332 => ((laws_eqFloor.f k bt322.1 bt322.2.1 bt322.2.2 bt332.1 bt332.2.1 bt332.2.2).bind fun t337 => (if t337 = true then ((laws_markFloor.f k bt322.1 bt322.2.1 bt322.2.2 1).bind fun bt338 => (if bt338.1 < 0 then (laws_FnExactBridges.j0 k t319 t328 true a0_0 a0_1 l0_2) else ((laws_eqIntA2S.f k t328 t319).bind fun t340 => (laws_FnExactBridges.j0 k t319 t328 (!t340) a0_0 a0_1 l0_2)))) else (some false)))) else (some false))))) = some r := H
  have A8 := Aside0.mk A80
  clear A80
  replace H := Option.bind_eq_some_iff.mp H
  obtain ⟨⟨t322, t323, t324⟩, A90, H⟩ := H
  replace H : ((impl_Bridges.f k t322 t323 t324).bind fun t328 => ((laws_eqIntA2S.f k t328 t319).bind fun t331 => (if t331 = true then ((laws_toFloor.f k a0_0 a0_1 l0_2).bind fun bt332 => ((laws_eqFloor.f k t322 t323 t324 bt332.1 bt332.2.1 bt332.2.2).bind fun t337 => (if t337 = true then ((laws_markFloor.f k t322 t323 t324 1).bind fun bt338 => (if bt338.1 < 0 then (laws_FnExactBridges.j0 k t319 t328 true a0_0 a0_1 l0_2) else ((laws_eqIntA2S.f k t328 t319).bind fun t340 => (laws_FnExactBridges.j0 k t319 t328 (!t340) a0_0 a0_1 l0_2)))) else (some false)))) else (some false)))) = some r := H
  have A9 := Aside0.mk A90
  clear A90
  replace H := Option.bind_eq_some_iff.mp H
  obtain ⟨t328, A100, H⟩ := H
  replace H : ((laws_eqIntA2S.f k t328 t319).bind fun t331 => (if t331 = true then ((laws_toFloor.f k a0_0 a0_1 l0_2).bind fun bt332 => ((laws_eqFloor.f k t322 t323 t324 bt332.1 bt332.2.1 bt332.2.2).bind fun t337 => (if t337 = true then ((laws_markFloor.f k t322 t323 t324 1).bind fun bt338 => (if bt338.1 < 0 then (laws_FnExactBridges.j0 k t319 t328 true a0_0 a0_1 l0_2) else ((laws_eqIntA2S.f k t328 t319).bind fun t340 => (laws_FnExactBridges.j0 k t319 t328 (!t340) a0_0 a0_1 l0_2)))) else (some false)))) else (some false))) = some r := H
  have A10 := Aside0.mk A100
  clear A100
  replace H := Option.bind_eq_some_iff.mp H
  obtain ⟨t331, A110, H⟩ := H
  replace H : (if t331 = true then ((laws_toFloor.f k a0_0 a0_1 l0_2).bind fun bt332 => ((laws_eqFloor.f k t322 t323 t324 bt332.1 bt332.2.1 bt332.2.2).bind fun t337 => (if t337 = true then ((laws_markFloor.f k t322 t323 t324 1).bind fun bt338 => (if bt338.1 < 0 then (laws_FnExactBridges.j0 k t319 t328 true a0_0 a0_1 l0_2) else ((laws_eqIntA2S.f k t328 t319).bind fun t340 => (laws_FnExactBridges.j0 k t319 t328 (!t340) a0_0 a0_1 l0_2)))) else (some false)))) else (some false)) = some r := H
  have A11 := Aside0.mk A110
  clear A110
  by_cases c12 : t331 = true
  {
  subst c12
  have H1 : ((laws_toFloor.f k a0_0 a0_1 l0_2).bind fun bt332 => ((laws_eqFloor.f k t322 t323 t324 bt332.1 bt332.2.1 bt332.2.2).bind fun t337 => (if t337 = true then ((laws_markFloor.f k t322 t323 t324 1).bind fun bt338 => (if bt338.1 < 0 then (laws_FnExactBridges.j0 k t319 t328 true a0_0 a0_1 l0_2) else ((laws_eqIntA2S.f k t328 t319).bind fun t340 => (laws_FnExactBridges.j0 k t319 t328 (!t340) a0_0 a0_1 l0_2)))) else (some false)))) = some r := by rw [if_pos rfl] at H; exact H
  clear H
  have H := H1
  clear H1
  replace H := Option.bind_eq_some_iff.mp H
  obtain ⟨⟨t332, t333, t334⟩, A130, H⟩ := H
  replace H : ((laws_eqFloor.f k t322 t323 t324 t332 t333 t334).bind fun t337 => (if t337 = true then ((laws_markFloor.f k t322 t323 t324 1).bind fun bt338 => (if bt338.1 < 0 then (laws_FnExactBridges.j0 k t319 t328 true a0_0 a0_1 l0_2) else ((laws_eqIntA2S.f k t328 t319).bind fun t340 => (laws_FnExactBridges.j0 k t319 t328 (!t340) a0_0 a0_1 l0_2)))) else (some false))) = some r := H
  have A13 := Aside0.mk A130
  clear A130
  replace H := Option.bind_eq_some_iff.mp H
  obtain ⟨t337, A140, H⟩ := H
  replace H : (if t337 = true then ((laws_markFloor.f k t322 t323 t324 1).bind fun bt338 => (if bt338.1 < 0 then (laws_FnExactBridges.j0 k t319 t328 true a0_0 a0_1 l0_2) else ((laws_eqIntA2S.f k t328 t319).bind fun t340 => (laws_FnExactBridges.j0 k t319 t328 (!t340) a0_0 a0_1 l0_2)))) else (some false)) = some r := H
  have A14 := Aside0.mk A140
  clear A140
  by_cases c15 : t337 = true
  {
  subst c15
  have H1 : ((laws_markFloor.f k t322 t323 t324 1).bind fun bt338 => (if bt338.1 < 0 then (laws_FnExactBridges.j0 k t319 t328 true a0_0 a0_1 l0_2) else ((laws_eqIntA2S.f k t328 t319).bind fun t340 => (laws_FnExactBridges.j0 k t319 t328 (!t340) a0_0 a0_1 l0_2)))) = some r := by rw [if_pos rfl] at H; exact H
  clear H
  have H := H1
  clear H1
  replace H := Option.bind_eq_some_iff.mp H
  obtain ⟨⟨t338, t339⟩, A160, H⟩ := H
  replace H : (if t338 < 0 then (laws_FnExactBridges.j0 k t319 t328 true a0_0 a0_1 l0_2) else ((laws_eqIntA2S.f k t328 t319).bind fun t340 => (laws_FnExactBridges.j0 k t319 t328 (!t340) a0_0 a0_1 l0_2))) = some r := H
  have A16 := Aside0.mk A160
  clear A160
  have HC17 := Aside0.mk H
  clear H
  go_enter Try.func13, Try.ntmps13
  try go_wp2_with (first | ((with_reducible refine gate_dst (N := 1) rfl ?_); refine box_event ?hg (N := 1) ?hd (cs := #[.int .i64 a0_0, .int .i64 a0_1, .slice A0_2 l0_2.length c0_2]) (t := 24) ?hr ?_; (case hd => rfl); (case hg => rfl); (case hr => first | (go_simp; done) | (go_simp; rfl)); intro gb312 hg w18 hbox hb; have n0_ := Aside0.mk (below_step qz2 hb); have n1_ := Aside0.mk (hbox); have n2_ := Aside0.mk ((by rw [hg]; exact (below_size qz2) : w.heap.size ≤ gb312)); have n3_ := Aside0.mk ((by rw [hg]; exact (below_size qz2) : w.heap.size ≤ gb312)); clear HB; have HB := n0_; have BK312 := n1_; have GW312 := n2_; have GE312 := n3_; clear n0_ n1_ n2_ n3_; clear hb hbox hg; have hcz19_0 : w18.cell? ⟨gb312, 0, none⟩ = some (.int .i64 a0_0) := (blk_cell BK312.out 0).trans rfl; have hcz19_1 : w18.cell? ⟨gb312, 1, none⟩ = some (.int .i64 a0_1) := (blk_cell BK312.out 1).trans rfl; have hcz19_2 : w18.cell? ⟨gb312, 2, none⟩ = some (.slice A0_2 l0_2.length c0_2) := (blk_cell BK312.out 2).trans rfl; have hfz19_0 := blk_frozen BK312.out 0; have hfz19_1 := blk_frozen BK312.out 1; have hfz19_2 := blk_frozen BK312.out 2) | ((with_reducible refine gate_callee (f := 15) rfl ?_); refine goesL_ (some 13) rfl rfl Try.func15 (by kernel_rfl) rfl #[.agg #[.int .i64 a0_0, .int .i64 a0_1, .slice A0_2 l0_2.length c0_2], .int .i64 1048576] rfl qz3 ?_; (with_reducible refine (laws_szFloor.calls a0_0 a0_1 _ _ l0_2 1048576 t313 _ ?side1 ?side2 A2.out).mono ?_); (case side1 => repeat (first | exact (Kd.C_below HR0_2.out HB.out) | (with_reducible refine Kd.C_alloc ?_ _) | (with_reducible refine Kd.C_drewN ?_ _) | (with_reducible refine Kd.C_drew ?_))); (case side2 => exact HC0_2.out); rintro e w20 ⟨rfl, hb⟩; refine ⟨_, rfl, ?_⟩; have n0_ := Aside0.mk (blk_below (g := gb312) (o := .cells #[.int .i64 a0_0, .int .i64 a0_1, .slice A0_2 l0_2.length c0_2] 24 (0, 0)) qz13 hb); have n1_ := Aside0.mk (below_step qz18 hb); clear BK312; clear HB; have BK312 := n0_; have HB := n1_; clear n0_ n1_; (try clear hb); (try clear hb2); (try clear hk); (try clear hi); have hcz21_0 : w20.cell? ⟨gb312, 0, none⟩ = some (.int .i64 a0_0) := (blk_cell BK312.out 0).trans rfl; have hcz21_1 : w20.cell? ⟨gb312, 1, none⟩ = some (.int .i64 a0_1) := (blk_cell BK312.out 1).trans rfl; have hcz21_2 : w20.cell? ⟨gb312, 2, none⟩ = some (.slice A0_2 l0_2.length c0_2) := (blk_cell BK312.out 2).trans rfl; have hfz21_0 := blk_frozen BK312.out 0; have hfz21_1 := blk_frozen BK312.out 1; have hfz21_2 := blk_frozen BK312.out 2) | ((with_reducible refine gate_callee (f := 17) rfl ?_); refine goesL_ (some 17) rfl rfl Try.func17 (by kernel_rfl) rfl #[.agg #[.int .i64 a0_0, .int .i64 a0_1, .slice A0_2 l0_2.length c0_2]] rfl qz3 ?_; (with_reducible refine (laws_toFloor.calls k a0_0 a0_1 _ _ l0_2 t314 t315 t316 _ ?side1 ?side2 A7.out).mono ?_); (case side1 => repeat (first | exact (Kd.C_below HR0_2.out HB.out) | (with_reducible refine Kd.C_alloc ?_ _) | (with_reducible refine Kd.C_drewN ?_ _) | (with_reducible refine Kd.C_drew ?_))); (case side2 => exact HC0_2.out); rintro e w22 ⟨v317, rfl, ho0, hb⟩; refine ⟨_, rfl, ?_⟩; have n0_ := Aside0.mk (Kd.R_lower ho0 (below_size qz18)); have n1_ := Aside0.mk (blk_below (g := gb312) (o := .cells #[.int .i64 a0_0, .int .i64 a0_1, .slice A0_2 l0_2.length c0_2] 24 (0, 0)) qz13 hb); have n2_ := Aside0.mk (below_step qz18 hb); clear BK312; clear HB; have HO318 := n0_; have BK312 := n1_; have HB := n2_; clear n0_ n1_ n2_; (try clear hb); (try clear hb2); (try clear hk); (try clear hi); (try clear ho0); obtain ⟨Ao23, co23, eo23⟩ := Kd.R_slice HO318.out; subst eo23) | ((with_reducible refine gate_callee (f := 54) rfl ?_); refine goesL_ (some 18) rfl rfl Try.func54 (by kernel_rfl) rfl #[.agg #[.int .i64 t314, .int .i64 t315, .slice Ao23 t316.length co23]] rfl qz3 ?_; (with_reducible refine (spec_Bridges.calls k t314 t315 _ _ t316 t319 _ ?side1 ?side2 A8.out).mono ?_); (case side1 => repeat (first | exact (Kd.R_reads' HO318.out).2.2 | (with_reducible refine Kd.C_alloc ?_ _) | (with_reducible refine Kd.C_drewN ?_ _) | (with_reducible refine Kd.C_drew ?_))); (case side2 => exact (Kd.R_reads' HO318.out).2.1); rintro e w24 ⟨v320, rfl, ho0, hb⟩; refine ⟨_, rfl, ?_⟩; have n0_ := Aside0.mk (Kd.R_below (by (with_reducible repeat (first | apply Kd.R_alloc | apply Kd.R_drewN | apply Kd.R_drew)); exact HO318.out) hb); have n1_ := Aside0.mk (Kd.R_lower ho0 (below_size qz18)); have n2_ := Aside0.mk (blk_below (g := gb312) (o := .cells #[.int .i64 a0_0, .int .i64 a0_1, .slice A0_2 l0_2.length c0_2] 24 (0, 0)) qz13 hb); have n3_ := Aside0.mk (below_step qz18 hb); clear HO318; clear BK312; clear HB; have HO318 := n0_; have HO321 := n1_; have BK312 := n2_; have HB := n3_; clear n0_ n1_ n2_ n3_; (try clear hb); (try clear hb2); (try clear hk); (try clear hi); (try clear ho0); have hcz25_0 : w24.cell? ⟨gb312, 0, none⟩ = some (.int .i64 a0_0) := (blk_cell BK312.out 0).trans rfl; have hcz25_1 : w24.cell? ⟨gb312, 1, none⟩ = some (.int .i64 a0_1) := (blk_cell BK312.out 1).trans rfl; have hcz25_2 : w24.cell? ⟨gb312, 2, none⟩ = some (.slice A0_2 l0_2.length c0_2) := (blk_cell BK312.out 2).trans rfl; have hfz25_0 := blk_frozen BK312.out 0; have hfz25_1 := blk_frozen BK312.out 1; have hfz25_2 := blk_frozen BK312.out 2) | ((with_reducible refine gate_callee (f := 17) rfl ?_); refine goesL_ (some 20) rfl rfl Try.func17 (by kernel_rfl) rfl #[.agg #[.int .i64 a0_0, .int .i64 a0_1, .slice A0_2 l0_2.length c0_2]] rfl qz3 ?_; (with_reducible refine (laws_toFloor.calls k a0_0 a0_1 _ _ l0_2 t322 t323 t324 _ ?side1 ?side2 A9.out).mono ?_); (case side1 => repeat (first | exact (Kd.C_below HR0_2.out HB.out) | (with_reducible refine Kd.C_alloc ?_ _) | (with_reducible refine Kd.C_drewN ?_ _) | (with_reducible refine Kd.C_drew ?_))); (case side2 => exact HC0_2.out); rintro e w26 ⟨v325, rfl, ho0, hb⟩; refine ⟨_, rfl, ?_⟩; have n0_ := Aside0.mk (Kd.R_elder' (by (with_reducible repeat (first | apply Kd.R_alloc | apply Kd.R_drewN | apply Kd.R_drew)); exact HO318.out) (Kd.R_base ho0) hb); have n1_ := Aside0.mk (Kd.R_below (by (with_reducible repeat (first | apply Kd.R_alloc | apply Kd.R_drewN | apply Kd.R_drew)); exact HO321.out) hb); have n2_ := Aside0.mk (Kd.R_lower (Kd.R_new' ho0 (Kd.R_lt (by (with_reducible repeat (first | apply Kd.R_alloc | apply Kd.R_drewN | apply Kd.R_drew)); exact HO318.out))) (below_size qz18)); have n3_ := Aside0.mk (blk_below (g := gb312) (o := .cells #[.int .i64 a0_0, .int .i64 a0_1, .slice A0_2 l0_2.length c0_2] 24 (0, 0)) qz13 hb); have n4_ := Aside0.mk (below_step qz18 hb); clear HO318; clear HO321; clear BK312; clear HB; have HO318 := n0_; have HO321 := n1_; have HO326 := n2_; have BK312 := n3_; have HB := n4_; clear n0_ n1_ n2_ n3_ n4_; (try clear hb); (try clear hb2); (try clear hk); (try clear hi); (try clear ho0)) | ((with_reducible refine gate_dst (N := 5) rfl ?_); refine box_event ?hg (N := 5) ?hd (cs := #[.int .i64 0, .int .i64 0, .slice none 0 0]) (t := 27) ?hr ?_; (case hd => rfl); (case hg => rfl); (case hr => first | (go_simp; done) | (go_simp; rfl)); intro gb327 hg w27 hbox hb; have n0_ := Aside0.mk (Kd.R_below (by (with_reducible repeat (first | apply Kd.R_alloc | apply Kd.R_drewN | apply Kd.R_drew)); exact HO318.out) hb); have n1_ := Aside0.mk (Kd.R_below (by (with_reducible repeat (first | apply Kd.R_alloc | apply Kd.R_drewN | apply Kd.R_drew)); exact HO321.out) hb); have n2_ := Aside0.mk (Kd.R_below (by (with_reducible repeat (first | apply Kd.R_alloc | apply Kd.R_drewN | apply Kd.R_drew)); exact HO326.out) hb); have n3_ := Aside0.mk (blk_below (g := gb312) (o := .cells #[.int .i64 a0_0, .int .i64 a0_1, .slice A0_2 l0_2.length c0_2] 24 (0, 0)) qz13 hb); have n4_ := Aside0.mk (below_step qz18 hb); have n5_ := Aside0.mk (hbox); have n6_ := Aside0.mk ((by rw [hg]; exact (below_size qz18) : w.heap.size ≤ gb327)); have n7_ := Aside0.mk ((by rw [hg]; exact (below_size qz18) : w.heap.size ≤ gb327)); have n8_ := Aside0.mk ((by rw [hg]; exact Nat.ne_of_lt (blk_lt (g := gb312) (o := .cells #[.int .i64 a0_0, .int .i64 a0_1, .slice A0_2 l0_2.length c0_2] 24 (0, 0)) qz13) : gb312 ≠ gb327)); have n9_ := Aside0.mk ((by rw [hg]; exact Nat.ne_of_gt (blk_lt (g := gb312) (o := .cells #[.int .i64 a0_0, .int .i64 a0_1, .slice A0_2 l0_2.length c0_2] 24 (0, 0)) qz13) : gb327 ≠ gb312)); clear HO318; clear HO321; clear HO326; clear BK312; clear HB; have HO318 := n0_; have HO321 := n1_; have HO326 := n2_; have BK312 := n3_; have HB := n4_; have BK327 := n5_; have GW327 := n6_; have GE327 := n7_; have NB312_327 := n8_; have NB327_312 := n9_; clear n0_ n1_ n2_ n3_ n4_ n5_ n6_ n7_ n8_ n9_; clear hb hbox hg; have hnb28 := NB327_312.out; have hnc28 := NB312_327.out; have hcz29_0 : w27.cell? ⟨gb327, 0, none⟩ = some (.int .i64 0) := (blk_cell BK327.out 0).trans rfl; have hcz29_1 : w27.cell? ⟨gb327, 1, none⟩ = some (.int .i64 0) := (blk_cell BK327.out 1).trans rfl; have hcz29_2 : w27.cell? ⟨gb327, 2, none⟩ = some (.slice none 0 0) := (blk_cell BK327.out 2).trans rfl; have hfz29_0 := blk_frozen BK327.out 0; have hfz29_1 := blk_frozen BK327.out 1; have hfz29_2 := blk_frozen BK327.out 2; obtain ⟨Ao30, co30, eo30⟩ := Kd.R_slice HO326.out; subst eo30) | ((with_reducible refine gate_callee (f := 55) rfl ?_); refine goesL_ (some 22) rfl rfl Try.func55 (by kernel_rfl) rfl #[.agg #[.int .i64 t322, .int .i64 t323, .slice Ao30 t324.length co30]] rfl qz3 ?_; (with_reducible refine (impl_Bridges.calls k t322 t323 _ _ t324 t328 _ ?side1 ?side2 A10.out).mono ?_); (case side1 => refine (Kd.R_reads' (e := 3) (base := w.heap.size) (ok := fun k_ => (True ∧ some k_ ≠ (.slice Ao23 t316.length co23 : Value).ownBlock)) (n := t324.length) (c := co30) ?_).2.2; exact (by (with_reducible repeat (first | apply Kd.R_alloc | apply Kd.R_drewN | apply Kd.R_drew)); exact (Kd.R_mono (Kd.R_far (p := ⟨gb327, 2, none⟩) (Kd.R_far (p := ⟨gb327, 1, none⟩) (Kd.R_far (p := ⟨gb327, 0, none⟩) (Kd.R_types HO326.out BK327.out (by decide)) (fun _ hk => hk.2) (.int .i64 t322)) (fun _ hk => hk.2) (.int .i64 t323)) (fun _ hk => hk.2) (.slice Ao30 t324.length co30)) (fun _ h_ => h_.1)))); (case side2 => exact (Kd.R_reads' HO326.out).2.1); rintro e w31 ⟨v329, rfl, ho0, hb⟩; refine ⟨_, rfl, ?_⟩; have n0_ := Aside0.mk (Kd.R_below (by (with_reducible repeat (first | apply Kd.R_alloc | apply Kd.R_drewN | apply Kd.R_drew)); exact (Kd.R_mono (Kd.R_far (p := ⟨gb327, 2, none⟩) (Kd.R_far (p := ⟨gb327, 1, none⟩) (Kd.R_far (p := ⟨gb327, 0, none⟩) (Kd.R_types HO318.out BK327.out (by decide)) (fun _ hk => hk.2) (.int .i64 t322)) (fun _ hk => hk.2) (.int .i64 t323)) (fun _ hk => hk.2) (.slice Ao30 t324.length co30)) (fun _ h_ => h_.1))) hb); have n1_ := Aside0.mk (Kd.R_elder' (by (with_reducible repeat (first | apply Kd.R_alloc | apply Kd.R_drewN | apply Kd.R_drew)); exact (Kd.R_mono (Kd.R_far (p := ⟨gb327, 2, none⟩) (Kd.R_far (p := ⟨gb327, 1, none⟩) (Kd.R_far (p := ⟨gb327, 0, none⟩) (Kd.R_types HO321.out BK327.out (by decide)) (fun _ hk => hk.2) (.int .i64 t322)) (fun _ hk => hk.2) (.int .i64 t323)) (fun _ hk => hk.2) (.slice Ao30 t324.length co30)) (fun _ h_ => h_.1))) (Kd.R_base ho0) hb); have n2_ := Aside0.mk (Kd.R_below (by (with_reducible repeat (first | apply Kd.R_alloc | apply Kd.R_drewN | apply Kd.R_drew)); exact (Kd.R_mono (Kd.R_far (p := ⟨gb327, 2, none⟩) (Kd.R_far (p := ⟨gb327, 1, none⟩) (Kd.R_far (p := ⟨gb327, 0, none⟩) (Kd.R_types HO326.out BK327.out (by decide)) (fun _ hk => hk.2) (.int .i64 t322)) (fun _ hk => hk.2) (.int .i64 t323)) (fun _ hk => hk.2) (.slice Ao30 t324.length co30)) (fun _ h_ => h_.1))) hb); have n3_ := Aside0.mk (Kd.R_lower (Kd.R_new' ho0 (Kd.R_lt (by (with_reducible repeat (first | apply Kd.R_alloc | apply Kd.R_drewN | apply Kd.R_drew)); exact (Kd.R_mono (Kd.R_far (p := ⟨gb327, 2, none⟩) (Kd.R_far (p := ⟨gb327, 1, none⟩) (Kd.R_far (p := ⟨gb327, 0, none⟩) (Kd.R_types HO321.out BK327.out (by decide)) (fun _ hk => hk.2) (.int .i64 t322)) (fun _ hk => hk.2) (.int .i64 t323)) (fun _ hk => hk.2) (.slice Ao30 t324.length co30)) (fun _ h_ => h_.1))))) (below_size qz7)); have n4_ := Aside0.mk (blk_below (g := gb312) (o := .cells #[.int .i64 a0_0, .int .i64 a0_1, .slice A0_2 l0_2.length c0_2] 24 (0, 0)) (by (with_reducible repeat (first | refine blk_drewN ?_ _ | refine blk_drew ?_ | refine blk_alloc ?_ _)); refine blk_far ?_ NB312_327.out _; (with_reducible repeat (first | refine blk_drewN ?_ _ | refine blk_drew ?_ | refine blk_alloc ?_ _)); refine blk_far ?_ NB312_327.out _; (with_reducible repeat (first | refine blk_drewN ?_ _ | refine blk_drew ?_ | refine blk_alloc ?_ _)); refine blk_far ?_ NB312_327.out _; (with_reducible repeat (first | refine blk_drewN ?_ _ | refine blk_drew ?_ | refine blk_alloc ?_ _)); exact BK312.out) hb); have n5_ := Aside0.mk (blk_below (g := gb327) (o := .cells #[.int .i64 t322, .int .i64 t323, .slice Ao30 t324.length co30] 27 (0, 0)) (by (with_reducible repeat (first | refine blk_drewN ?_ _ | refine blk_drew ?_ | refine blk_alloc ?_ _)); refine blk_put (cs := #[.int .i64 t322, .int .i64 t323, .slice none 0 0]) ?_ 2 _ rfl; (with_reducible repeat (first | refine blk_drewN ?_ _ | refine blk_drew ?_ | refine blk_alloc ?_ _)); refine blk_put (cs := #[.int .i64 t322, .int .i64 0, .slice none 0 0]) ?_ 1 _ rfl; (with_reducible repeat (first | refine blk_drewN ?_ _ | refine blk_drew ?_ | refine blk_alloc ?_ _)); refine blk_put (cs := #[.int .i64 0, .int .i64 0, .slice none 0 0]) ?_ 0 _ rfl; (with_reducible repeat (first | refine blk_drewN ?_ _ | refine blk_drew ?_ | refine blk_alloc ?_ _)); exact BK327.out) hb); have n6_ := Aside0.mk (below_step qz7 hb); clear HO318; clear HO321; clear HO326; clear BK312; clear BK327; clear HB; have HO318 := n0_; have HO321 := n1_; have HO326 := n2_; have HO330 := n3_; have BK312 := n4_; have BK327 := n5_; have HB := n6_; clear n0_ n1_ n2_ n3_ n4_ n5_ n6_; (try clear hb); (try clear hb2); (try clear hk); (try clear hi); (try clear ho0); obtain ⟨Ao32, co32, eo32⟩ := Kd.R_slice HO330.out; subst eo32; obtain ⟨Ao33, co33, eo33⟩ := Kd.R_slice HO321.out; subst eo33) | ((with_reducible refine gate_callee (f := 56) rfl ?_); refine goesL_ (some 25) rfl rfl Try.func56 (by kernel_rfl) rfl #[.slice Ao32 t328.length co32, .slice Ao33 t319.length co33] rfl qz3 ?_; (with_reducible refine (laws_eqIntA2S.calls k _ _ t328 _ _ t319 true _ ?side1 ?side2 ?side3 ?side4 A11.out).mono ?_); (case side1 => repeat (first | exact (Kd.R_reads' HO330.out).2.2 | (with_reducible refine Kd.C_alloc ?_ _) | (with_reducible refine Kd.C_drewN ?_ _) | (with_reducible refine Kd.C_drew ?_))); (case side2 => exact (Kd.R_reads' HO330.out).2.1); (case side3 => repeat (first | exact (Kd.R_reads' HO321.out).2.2 | (with_reducible refine Kd.C_alloc ?_ _) | (with_reducible refine Kd.C_drewN ?_ _) | (with_reducible refine Kd.C_drew ?_))); (case side4 => exact (Kd.R_reads' HO321.out).2.1); rintro e w34 ⟨rfl, hb⟩; refine ⟨_, rfl, ?_⟩; have n0_ := Aside0.mk (Kd.R_below (by (with_reducible repeat (first | apply Kd.R_alloc | apply Kd.R_drewN | apply Kd.R_drew)); exact HO318.out) hb); have n1_ := Aside0.mk (Kd.R_below (by (with_reducible repeat (first | apply Kd.R_alloc | apply Kd.R_drewN | apply Kd.R_drew)); exact HO321.out) hb); have n2_ := Aside0.mk (Kd.R_below (by (with_reducible repeat (first | apply Kd.R_alloc | apply Kd.R_drewN | apply Kd.R_drew)); exact HO326.out) hb); have n3_ := Aside0.mk (Kd.R_below (by (with_reducible repeat (first | apply Kd.R_alloc | apply Kd.R_drewN | apply Kd.R_drew)); exact HO330.out) hb); have n4_ := Aside0.mk (blk_below (g := gb312) (o := .cells #[.int .i64 a0_0, .int .i64 a0_1, .slice A0_2 l0_2.length c0_2] 24 (0, 0)) qz13 hb); have n5_ := Aside0.mk (blk_below (g := gb327) (o := .cells #[.int .i64 t322, .int .i64 t323, .slice Ao30 t324.length co30] 27 (0, 0)) (by (with_reducible repeat (first | refine blk_drewN ?_ _ | refine blk_drew ?_ | refine blk_alloc ?_ _)); exact BK327.out) hb); have n6_ := Aside0.mk (below_step qz7 hb); clear HO318; clear HO321; clear HO326; clear HO330; clear BK312; clear BK327; clear HB; have HO318 := n0_; have HO321 := n1_; have HO326 := n2_; have HO330 := n3_; have BK312 := n4_; have BK327 := n5_; have HB := n6_; clear n0_ n1_ n2_ n3_ n4_ n5_ n6_; (try clear hb); (try clear hb2); (try clear hk); (try clear hi)))
  have n0_ := Aside0.mk (Kd.R_drew HO318.out)
  have n1_ := Aside0.mk (Kd.R_drew HO321.out)
  have n2_ := Aside0.mk (Kd.R_drew HO326.out)
  have n3_ := Aside0.mk (Kd.R_drew HO330.out)
  have n4_ := Aside0.mk (blk_drew BK312.out)
  have n5_ := Aside0.mk (blk_drew BK327.out)
  have n6_ := Aside0.mk (below_drew1 HB.out)
  clear HO318
  clear HO321
  clear HO326
  clear HO330
  clear BK312
  clear BK327
  clear HB
  have HO318 := n0_
  have HO321 := n1_
  have HO326 := n2_
  have HO330 := n3_
  have BK312 := n4_
  have BK327 := n5_
  have HB := n6_
  clear n0_ n1_ n2_ n3_ n4_ n5_ n6_
  refine start_ (n := 5) (S := fun w' => w'.cell? ⟨gb327, 0, none⟩ = some (.int .i64 t322) ∧ w'.cell? ⟨gb327, 1, none⟩ = some (.int .i64 t323) ∧ w'.cell? ⟨gb327, 2, none⟩ = some (.slice Ao30 t324.length co30) ∧ w'.cell? ⟨gb312, 0, none⟩ = some (.int .i64 a0_0) ∧ w'.cell? ⟨gb312, 1, none⟩ = some (.int .i64 a0_1) ∧ w'.cell? ⟨gb312, 2, none⟩ = some (.slice A0_2 l0_2.length c0_2)) (ds := []) #[false, false, false, false, false] (by kernel_rfl) rfl rfl ⟨(blk_cell BK327.out 0).trans rfl, (blk_cell BK327.out 1).trans rfl, (blk_cell BK327.out 2).trans rfl, (blk_cell BK312.out 0).trans rfl, (blk_cell BK312.out 1).trans rfl, (blk_cell BK312.out 2).trans rfl⟩ (fun hHeld => ?_)
  generalize w34.drew = w35 at HO318 HO321 HO326 HO330 BK312 BK327 HB hHeld ⊢
  refine take_ (i := 0) (N := some 27) (v := ?_) (a' := ?_) #[true, false, false, false, false] rfl rfl (by kernel_rfl) qzd (Or.inl ⟨by rfl, ?_⟩) hHeld ?_ ?_
  rotate_left
  {
  rintro w' ⟨s0, s1, s2, s3, s4, s5⟩
  go_simp
  with_reducible rfl
  }
  rotate_left
  {
  simp only [qzs]
  rfl
  }
  refine take_ (i := 1) (N := some 28) (v := ?_) (a' := ?_) #[true, true, false, false, false] rfl rfl (by kernel_rfl) qzd (Or.inl ⟨by rfl, ?_⟩) hHeld ?_ ?_
  rotate_left
  {
  rintro w' ⟨s0, s1, s2, s3, s4, s5⟩
  go_simp
  with_reducible rfl
  }
  rotate_left
  {
  simp only [qzs]
  rfl
  }
  refine one_ (i := 2) (N := some 29) #[true, true, true, false, false] rfl rfl (by kernel_rfl) (by decide) (fun K hK => ?_)
  refine goes_ Try.func17 (by kernel_rfl) rfl #[.agg #[.int .i64 a0_0, .int .i64 a0_1, .slice A0_2 l0_2.length c0_2]] (by rfl) rfl rfl qz3 ?_
  with_reducible refine (laws_toFloor.calls k a0_0 a0_1 _ _ l0_2 t332 t333 t334 _ ?side1 ?side2 A13.out).mono ?_
  (case side1 => repeat (first | exact (Kd.C_below HR0_2.out HB.out) | (with_reducible refine Kd.C_alloc ?_ _) | (with_reducible refine Kd.C_drewN ?_ _) | (with_reducible refine Kd.C_drew ?_)))
  (case side2 => exact HC0_2.out)
  rintro e w36 ⟨v335, rfl, ho0, hb⟩
  refine ⟨_, rfl, ?_⟩
  have n0_ := Aside0.mk (Kd.R_elder' (by (with_reducible repeat (first | apply Kd.R_alloc | apply Kd.R_drewN | apply Kd.R_drew)); exact HO318.out) (Kd.R_base ho0) hb)
  have n1_ := Aside0.mk (Kd.R_below (by (with_reducible repeat (first | apply Kd.R_alloc | apply Kd.R_drewN | apply Kd.R_drew)); exact HO321.out) hb)
  have n2_ := Aside0.mk (Kd.R_elder' (by (with_reducible repeat (first | apply Kd.R_alloc | apply Kd.R_drewN | apply Kd.R_drew)); exact HO326.out) (Kd.R_base ho0) hb)
  have n3_ := Aside0.mk (Kd.R_below (by (with_reducible repeat (first | apply Kd.R_alloc | apply Kd.R_drewN | apply Kd.R_drew)); exact HO330.out) hb)
  have n4_ := Aside0.mk (Kd.R_lower (Kd.R_new' (Kd.R_new' ho0 (Kd.R_lt (by (with_reducible repeat (first | apply Kd.R_alloc | apply Kd.R_drewN | apply Kd.R_drew)); exact HO318.out))) (Kd.R_lt (by (with_reducible repeat (first | apply Kd.R_alloc | apply Kd.R_drewN | apply Kd.R_drew)); exact HO326.out))) (below_size qz7))
  have n5_ := Aside0.mk (blk_below (g := gb312) (o := .cells #[.int .i64 a0_0, .int .i64 a0_1, .slice A0_2 l0_2.length c0_2] 24 (0, 0)) qz13 hb)
  have n6_ := Aside0.mk (blk_below (g := gb327) (o := .cells #[.int .i64 t322, .int .i64 t323, .slice Ao30 t324.length co30] 27 (0, 0)) (by (with_reducible repeat (first | refine blk_drewN ?_ _ | refine blk_drew ?_ | refine blk_alloc ?_ _)); exact BK327.out) hb)
  have n7_ := Aside0.mk (below_step qz7 hb)
  clear HO318
  clear HO321
  clear HO326
  clear HO330
  clear BK312
  clear BK327
  clear HB
  have HO318 := n0_
  have HO321 := n1_
  have HO326 := n2_
  have HO330 := n3_
  have HO336 := n4_
  have BK312 := n5_
  have BK327 := n6_
  have HB := n7_
  clear n0_ n1_ n2_ n3_ n4_ n5_ n6_ n7_
  (try clear hb)
  (try clear hb2)
  (try clear hk)
  (try clear hi)
  (try clear ho0)
  obtain ⟨Ao37, co37, eo37⟩ := Kd.R_slice HO336.out
  (first | subst eo37 | (injection eo37 with f1_ f2_ f3_; have f4_ := f1_.symm; have f5_ := f3_.symm; clear f1_ f2_ f3_; subst f4_; subst f5_))
  refine hK.out _ _ ⟨(blk_cell BK327.out 0).trans rfl, (blk_cell BK327.out 1).trans rfl, (blk_cell BK327.out 2).trans rfl, (blk_cell BK312.out 0).trans rfl, (blk_cell BK312.out 1).trans rfl, (blk_cell BK312.out 2).trans rfl⟩ (fun hHeld => ?_)
  clear hK K
  refine norm_ (a' := ?_) ?_ ?_
  rotate_left
  {
  show Act.put _ (some 29) _ = _
  simp only [qzs]
  rfl
  }
  refine one_ (i := 3) (N := some 30) #[true, true, true, true, false] rfl rfl (by kernel_rfl) (by decide) (fun K hK => ?_)
  refine goes_ Try.func19 (by kernel_rfl) rfl #[.agg #[.int .i64 t322, .int .i64 t323, .slice Ao30 t324.length co30], .agg #[.int .i64 t332, .int .i64 t333, .slice Ao37 t334.length co37]] (by rfl) rfl rfl qz3 ?_
  with_reducible refine (laws_eqFloor.calls k t322 t323 _ _ t324 t332 t333 _ _ t334 true _ ?side1 ?side2 ?side3 ?side4 A14.out).mono ?_
  (case side1 => repeat (first | exact (Kd.R_reads' HO326.out).2.2 | (with_reducible refine Kd.C_alloc ?_ _) | (with_reducible refine Kd.C_drewN ?_ _) | (with_reducible refine Kd.C_drew ?_)))
  (case side2 => exact (Kd.R_reads' HO326.out).2.1)
  (case side3 => repeat (first | exact (Kd.R_reads' HO336.out).2.2 | (with_reducible refine Kd.C_alloc ?_ _) | (with_reducible refine Kd.C_drewN ?_ _) | (with_reducible refine Kd.C_drew ?_)))
  (case side4 => exact (Kd.R_reads' HO336.out).2.1)
  rintro e w38 ⟨rfl, hb⟩
  refine ⟨_, rfl, ?_⟩
  have n0_ := Aside0.mk (Kd.R_below (by (with_reducible repeat (first | apply Kd.R_alloc | apply Kd.R_drewN | apply Kd.R_drew)); exact HO318.out) hb)
  have n1_ := Aside0.mk (Kd.R_below (by (with_reducible repeat (first | apply Kd.R_alloc | apply Kd.R_drewN | apply Kd.R_drew)); exact HO321.out) hb)
  have n2_ := Aside0.mk (Kd.R_below (by (with_reducible repeat (first | apply Kd.R_alloc | apply Kd.R_drewN | apply Kd.R_drew)); exact HO326.out) hb)
  have n3_ := Aside0.mk (Kd.R_below (by (with_reducible repeat (first | apply Kd.R_alloc | apply Kd.R_drewN | apply Kd.R_drew)); exact HO330.out) hb)
  have n4_ := Aside0.mk (Kd.R_below (by (with_reducible repeat (first | apply Kd.R_alloc | apply Kd.R_drewN | apply Kd.R_drew)); exact HO336.out) hb)
  have n5_ := Aside0.mk (blk_below (g := gb312) (o := .cells #[.int .i64 a0_0, .int .i64 a0_1, .slice A0_2 l0_2.length c0_2] 24 (0, 0)) qz13 hb)
  have n6_ := Aside0.mk (blk_below (g := gb327) (o := .cells #[.int .i64 t322, .int .i64 t323, .slice Ao30 t324.length co30] 27 (0, 0)) (by (with_reducible repeat (first | refine blk_drewN ?_ _ | refine blk_drew ?_ | refine blk_alloc ?_ _)); exact BK327.out) hb)
  have n7_ := Aside0.mk (below_step qz7 hb)
  clear HO318
  clear HO321
  clear HO326
  clear HO330
  clear HO336
  clear BK312
  clear BK327
  clear HB
  have HO318 := n0_
  have HO321 := n1_
  have HO326 := n2_
  have HO330 := n3_
  have HO336 := n4_
  have BK312 := n5_
  have BK327 := n6_
  have HB := n7_
  clear n0_ n1_ n2_ n3_ n4_ n5_ n6_ n7_
  (try clear hb)
  (try clear hb2)
  (try clear hk)
  (try clear hi)
  refine hK.out _ _ ⟨(blk_cell BK327.out 0).trans rfl, (blk_cell BK327.out 1).trans rfl, (blk_cell BK327.out 2).trans rfl, (blk_cell BK312.out 0).trans rfl, (blk_cell BK312.out 1).trans rfl, (blk_cell BK312.out 2).trans rfl⟩ (fun hHeld => ?_)
  clear hK K
  refine norm_ (a' := ?_) ?_ ?_
  rotate_left
  {
  show Act.put _ (some 30) _ = _
  simp only [qzs]
  rfl
  }
  refine pure_ (i := 4) (N := some 31) (v := ?_) (a' := ?_) #[true, true, true, true, true] rfl rfl (by kernel_rfl) qzd (Or.inl ⟨by rfl, ?_⟩) ?_ ?_
  rotate_left
  {
  intro w'
  go_simp
  with_reducible rfl
  }
  rotate_left
  {
  simp only [qzs]
  rfl
  }
  refine done_ (by kernel_rfl) ?_
  have hcz39_0 : w38.cell? ⟨gb327, 0, none⟩ = some (.int .i64 t322) := (blk_cell BK327.out 0).trans rfl
  have hcz39_1 : w38.cell? ⟨gb327, 1, none⟩ = some (.int .i64 t323) := (blk_cell BK327.out 1).trans rfl
  have hcz39_2 : w38.cell? ⟨gb327, 2, none⟩ = some (.slice Ao30 t324.length co30) := (blk_cell BK327.out 2).trans rfl
  have hfz39_0 := blk_frozen BK327.out 0
  have hfz39_1 := blk_frozen BK327.out 1
  have hfz39_2 := blk_frozen BK327.out 2
  go_upto_region 14 with (first | ((with_reducible refine gate_callee (f := 38) rfl ?_); refine goesL_ (some 34) rfl rfl Try.func38 (by kernel_rfl) rfl #[.agg #[.int .i64 t322, .int .i64 t323, .slice Ao30 t324.length co30], .int .i64 1] rfl qz3 ?_; (with_reducible refine (laws_markFloor.calls k t322 t323 (fun k_ => some k_ = (.slice Ao30 t324.length co30 : Value).ownBlock) (.slice Ao30 t324.length co30) t324 1 t338 t339 w _ ?side1 ?side2 A16.out).mono ?_); (case side1 => repeat (first | (with_reducible first | exact HB.out | apply below_alloc | apply pw_below_drewN | apply below_drew1 | refine below_set ?_ GE312.out | refine below_set ?_ GE327.out) | exact HB.out)); (case side2 => exact Kd.R_tight rfl HO326.out); rintro e w40 ⟨rfl, hy0, hb, hkp⟩; refine ⟨_, rfl, ?_⟩; have n0_ := Aside0.mk (blk_kept qz13 hkp (fun hs_ => (fun e_ => (Kd.R_ne HO326.out BK312.out (by decide)) e_) hs_)); have n1_ := Aside0.mk (Kd.R_mono (ok' := fun k_ => some k_ ≠ (.slice Ao30 t324.length co30 : Value).ownBlock ∧ some k_ ≠ (.slice Ao37 t334.length co37 : Value).ownBlock) (Kd.R_keptB (HO318.out) hkp (fun k_ hk_ hs_ => (hk_.1.2) hs_)) (fun k_ hk_ => ⟨hk_.1.1.2, hk_.1.2⟩)); have n2_ := Aside0.mk (Kd.R_mono (ok' := fun k_ => some k_ ≠ (.slice Ao32 t328.length co32 : Value).ownBlock) (Kd.R_keptB ((Kd.R_apart' HO321.out (Kd.R_typed HO326.out) (by decide))) hkp (fun k_ hk_ hs_ => (hk_.2) hs_)) (fun k_ hk_ => hk_.1.1.2)); have n3_ := Aside0.mk (Kd.R_reok rfl hy0 (fun k_ e_ => HO326.out.1 k_ e_)); have n4_ := Aside0.mk (blk_kept (by (with_reducible repeat (first | refine blk_drewN ?_ _ | refine blk_drew ?_ | refine blk_alloc ?_ _)); exact BK327.out) hkp (fun hs_ => (fun e_ => (Kd.R_ne HO326.out BK327.out (by decide)) e_) hs_)); have n5_ := Aside0.mk (Kd.R_mono (ok' := fun k_ => some k_ ≠ (.slice Ao33 t319.length co33 : Value).ownBlock) (Kd.R_keptB ((Kd.R_apart' HO330.out (Kd.R_typed HO326.out) (by decide))) hkp (fun k_ hk_ hs_ => (hk_.2) hs_)) (fun k_ hk_ => hk_.1.1.2)); have n6_ := Aside0.mk (Kd.R_mono (ok' := fun k_ => some k_ ≠ (.slice Ao23 t316.length co23 : Value).ownBlock ∧ some k_ ≠ (.slice Ao30 t324.length co30 : Value).ownBlock) (Kd.R_keptB (HO336.out) hkp (fun k_ hk_ hs_ => (hk_.2) hs_)) (fun k_ hk_ => ⟨hk_.1.1.2, hk_.1.2⟩)); have n7_ := Aside0.mk (hb); clear BK312; clear HO318; clear HO321; clear HO326; clear BK327; clear HO330; clear HO336; clear HB; have BK312 := n0_; have HO318 := n1_; have HO321 := n2_; have HO326 := n3_; have BK327 := n4_; have HO330 := n5_; have HO336 := n6_; have HB := n7_; clear n0_ n1_ n2_ n3_ n4_ n5_ n6_ n7_; (try clear hb); (try clear hkp); (try clear hy0)))
  (try simp only [Act.put, List.setIfInBounds_toArray, List.set_cons_zero, List.set_cons_succ])
  go_cut [42] (fun v42 wc => ∃ (kq : Nat) (x42_16 : Bool), v42 = .bool x42_16 ∧ Aside0 (laws_FnExactBridges.j0 kq t319 t328 x42_16 a0_0 a0_1 l0_2 = some r) ∧ Aside0 (kq ≤ k) ∧ Aside0 (Kd.R k111 111 wc w.heap.size (fun k_ => some k_ ≠ ((.slice Ao32 t328.length co32) : Value).ownBlock) (.slice Ao33 t319.length co33) t319) ∧ Aside0 (Kd.R k111 111 wc w.heap.size (fun k_ => some k_ ≠ ((.slice Ao33 t319.length co33) : Value).ownBlock) (.slice Ao32 t328.length co32) t328) ∧ Aside0 (Kd.R (Kd.int .i64) 3 wc w.heap.size (fun _ => True) (.slice Ao30 t324.length co30) t339) ∧ Aside0 (wc.heap[gb312]? = some (.cells #[.int .i64 a0_0, .int .i64 a0_1, (.slice A0_2 l0_2.length c0_2)] 24 (0, 0))) ∧ Aside0 (wc.heap[gb327]? = some (.cells #[.int .i64 t322, .int .i64 t323, (.slice Ao30 t324.length co30)] 27 (0, 0))) ∧ Aside0 (Below w.heap.size w wc))
  case first =>
    have H := HC17.out
    clear HC17
    by_cases c41 : t338 < 0
    {
    rw [if_pos c41] at H
    have c41b0 : decide (t338 < 0) = true := decide_eq_true c41
    clear c41
    (first | rw [c41b0] | (simp only [i64_w, i32_w]; rw [c41b0]) | rw [@decide_eq_true _ _ (of_decide_eq_true c41b0)] | rw [@decide_eq_true _ _ (of_decide_eq_true c41b1)] | skip)
    have H' := Aside0.mk H
    clear H
    go_wp2
    go_meet
    case rel => exact ⟨_, (true), qz6, H', ⟨by first | omega | exact Nat.le_refl _⟩, ⟨by (with_reducible repeat (first | apply Kd.R_alloc | apply Kd.R_drewN | apply Kd.R_drew)); (first | exact HO321.out | exact Kd.R_mono HO321.out (fun _ h_ => h_.1) | exact Kd.R_mono HO321.out (fun _ h_ => h_.2))⟩, ⟨by (with_reducible repeat (first | apply Kd.R_alloc | apply Kd.R_drewN | apply Kd.R_drew)); (first | exact HO330.out | exact Kd.R_mono HO330.out (fun _ h_ => h_.1) | exact Kd.R_mono HO330.out (fun _ h_ => h_.2))⟩, ⟨by (with_reducible repeat (first | apply Kd.R_alloc | apply Kd.R_drewN | apply Kd.R_drew)); exact Kd.R_mono HO326.out (fun _ hk => trivial)⟩, ⟨by (with_reducible repeat (first | refine blk_drewN ?_ _ | refine blk_drew ?_ | refine blk_alloc ?_ _)); exact BK312.out⟩, ⟨by (with_reducible repeat (first | refine blk_drewN ?_ _ | refine blk_drew ?_ | refine blk_alloc ?_ _)); exact BK327.out⟩, ⟨by repeat (first | (with_reducible first | exact HB.out | apply below_alloc | apply pw_below_drewN | apply below_drew1 | refine below_set ?_ GE312.out | refine below_set ?_ GE327.out) | exact HB.out)⟩⟩
    }
    {
    rw [if_neg c41] at H
    have c41b0 : decide (t338 < 0) = false := decide_eq_false c41
    clear c41
    (first | rw [c41b0] | (simp only [i64_w, i32_w]; rw [c41b0]) | rw [@decide_eq_false _ _ (of_decide_eq_false c41b0)] | rw [@decide_eq_false _ _ (of_decide_eq_false c41b1)] | skip)
    replace H := Option.bind_eq_some_iff.mp H
    obtain ⟨t340, A420, H⟩ := H
    replace H : (laws_FnExactBridges.j0 k t319 t328 (!t340) a0_0 a0_1 l0_2) = some r := H
    have A42 := Aside0.mk A420
    clear A420
    have H' := Aside0.mk H
    clear H
    go_wp2_with (first | (go_at_call 56; (with_reducible refine (laws_eqIntA2S.calls k _ _ t328 _ _ t319 t340 _ ?side1 ?side2 ?side3 ?side4 A42.out).mono ?_); (case side1 => repeat (first | exact (Kd.R_reads' HO330.out).2.2 | (with_reducible refine Kd.C_alloc ?_ _) | (with_reducible refine Kd.C_drewN ?_ _) | (with_reducible refine Kd.C_drew ?_))); (case side2 => exact (Kd.R_reads' HO330.out).2.1); (case side3 => repeat (first | exact (Kd.R_reads' HO321.out).2.2 | (with_reducible refine Kd.C_alloc ?_ _) | (with_reducible refine Kd.C_drewN ?_ _) | (with_reducible refine Kd.C_drew ?_))); (case side4 => exact (Kd.R_reads' HO321.out).2.1); rintro e w43 ⟨rfl, hb⟩; have n0_ := Aside0.mk (Kd.R_below (by (with_reducible repeat (first | apply Kd.R_alloc | apply Kd.R_drewN | apply Kd.R_drew)); exact HO318.out) hb); have n1_ := Aside0.mk (Kd.R_below (by (with_reducible repeat (first | apply Kd.R_alloc | apply Kd.R_drewN | apply Kd.R_drew)); exact HO321.out) hb); have n2_ := Aside0.mk (Kd.R_below (by (with_reducible repeat (first | apply Kd.R_alloc | apply Kd.R_drewN | apply Kd.R_drew)); exact HO326.out) hb); have n3_ := Aside0.mk (Kd.R_below (by (with_reducible repeat (first | apply Kd.R_alloc | apply Kd.R_drewN | apply Kd.R_drew)); exact HO330.out) hb); have n4_ := Aside0.mk (Kd.R_below (by (with_reducible repeat (first | apply Kd.R_alloc | apply Kd.R_drewN | apply Kd.R_drew)); exact HO336.out) hb); have n5_ := Aside0.mk (blk_below (g := gb312) (o := .cells #[.int .i64 a0_0, .int .i64 a0_1, .slice A0_2 l0_2.length c0_2] 24 (0, 0)) qz13 hb); have n6_ := Aside0.mk (blk_below (g := gb327) (o := .cells #[.int .i64 t322, .int .i64 t323, .slice Ao30 t324.length co30] 27 (0, 0)) (by (with_reducible repeat (first | refine blk_drewN ?_ _ | refine blk_drew ?_ | refine blk_alloc ?_ _)); exact BK327.out) hb); have n7_ := Aside0.mk (below_step qz7 hb); clear HO318; clear HO321; clear HO326; clear HO330; clear HO336; clear BK312; clear BK327; clear HB; have HO318 := n0_; have HO321 := n1_; have HO326 := n2_; have HO330 := n3_; have HO336 := n4_; have BK312 := n5_; have BK327 := n6_; have HB := n7_; clear n0_ n1_ n2_ n3_ n4_ n5_ n6_ n7_; (try clear hb); (try clear hb2); (try clear hk); (try clear hi)))
    go_meet
    case rel => exact ⟨_, (!t340), qz6, H', ⟨by first | omega | exact Nat.le_refl _⟩, ⟨by (with_reducible repeat (first | apply Kd.R_alloc | apply Kd.R_drewN | apply Kd.R_drew)); (first | exact HO321.out | exact Kd.R_mono HO321.out (fun _ h_ => h_.1) | exact Kd.R_mono HO321.out (fun _ h_ => h_.2))⟩, ⟨by (with_reducible repeat (first | apply Kd.R_alloc | apply Kd.R_drewN | apply Kd.R_drew)); (first | exact HO330.out | exact Kd.R_mono HO330.out (fun _ h_ => h_.1) | exact Kd.R_mono HO330.out (fun _ h_ => h_.2))⟩, ⟨by (with_reducible repeat (first | apply Kd.R_alloc | apply Kd.R_drewN | apply Kd.R_drew)); exact Kd.R_mono HO326.out (fun _ hk => trivial)⟩, ⟨by (with_reducible repeat (first | refine blk_drewN ?_ _ | refine blk_drew ?_ | refine blk_alloc ?_ _)); exact BK312.out⟩, ⟨by (with_reducible repeat (first | refine blk_drewN ?_ _ | refine blk_drew ?_ | refine blk_alloc ?_ _)); exact BK327.out⟩, ⟨by repeat (first | (with_reducible first | exact HB.out | apply below_alloc | apply pw_below_drewN | apply below_drew1 | refine below_set ?_ GE312.out | refine below_set ?_ GE327.out) | exact HB.out)⟩⟩
    }
  case rest =>
    clear HC17
    try clear c1
    try clear c2
    try clear p2
    try clear c3
    try clear c3b0
    try clear c4
    try clear c5
    try clear c12
    try clear c13
    try clear c15
    try clear c17
    try clear c19
    try clear c28
    try clear c38
    try clear c41
    try clear c41b0
    try clear c41b1
    try clear hcz19_0
    try clear hcz19_1
    try clear hcz19_2
    try clear hcz21_0
    try clear hcz21_1
    try clear hcz21_2
    try clear hcz25_0
    try clear hcz25_1
    try clear hcz25_2
    try clear hcz29_0
    try clear hcz29_1
    try clear hcz29_2
    try clear hcz39_0
    try clear hcz39_1
    try clear hcz39_2
    try clear hcz5_0
    try clear hcz5_1
    try clear hcz5_2
    try clear hfz19_0
    try clear hfz19_1
    try clear hfz19_2
    try clear hfz21_0
    try clear hfz21_1
    try clear hfz21_2
    try clear hfz25_0
    try clear hfz25_1
    try clear hfz25_2
    try clear hfz29_0
    try clear hfz29_1
    try clear hfz29_2
    try clear hfz39_0
    try clear hfz39_1
    try clear hfz39_2
    try clear hfz5_0
    try clear hfz5_1
    try clear hfz5_2
    obtain ⟨kq, x42_16, rfl, HA, HJ16, HO_4, HO_6, HO_328002, BK312, BK327, HB⟩ := hcut
    have hl328002_16 := (Kd.R_reads' HO_328002.out).1
    rw [hl328002_16] at HO_328002
    (try simp only [hl328002_16])
    (try simp only [hl328002_16] at BK312)
    (try simp only [hl328002_16] at BK327)
    (try simp only [hl328002_16] at HO_4)
    (try simp only [hl328002_16] at HO_6)
    cases kq with
    | zero => exact absurd HA.out (by simp [laws_FnExactBridges.j0])
    | succ kj16 =>
      have H := HA.out
      clear HA
      simp only [laws_FnExactBridges.j0] at H
      by_cases c44 : x42_16 = true
      {
      subst c44
      have H1 : (some false) = some r := by rw [if_pos rfl] at H; exact H
      clear H
      have H := H1
      clear H1
      obtain rfl := Option.some.inj H
      exact absurd HTR_.out (by decide)
      }
      {
      replace c44 := Bool.eq_false_iff.mpr c44
      subst c44
      have H1 : ((laws_markIntA2S.f kj16 t328 1).bind fun bt341 => ((laws_heldIntA2S.f kj16 bt341.2 1).bind fun t343 => (if t343 < 0 then (some false) else (if t343 = bt341.1 then ((laws_toFloor.f kj16 a0_0 a0_1 l0_2).bind fun bt344 => ((impl_Bridges.f kj16 bt344.1 bt344.2.1 bt344.2.2).bind fun t349 => ((laws_eqIntA2S.f kj16 t349 t319).bind fun t352 => (if t352 = true then ((laws_heldIntA2S.f kj16 bt341.2 1).bind fun t353 => (if t353 < 0 then (some false) else (if t353 = bt341.1 then (some true) else (some false)))) else (some false))))) else (some false))))) = some r := by rw [if_neg (show ¬ (false = true) by decide)] at H; exact H
      clear H
      have H := H1
      clear H1
      replace H := Option.bind_eq_some_iff.mp H
      obtain ⟨⟨t341, t342⟩, A450, H⟩ := H
      replace H : ((laws_heldIntA2S.f kj16 t342 1).bind fun t343 => (if t343 < 0 then (some false) else (if t343 = t341 then ((laws_toFloor.f kj16 a0_0 a0_1 l0_2).bind fun bt344 => ((impl_Bridges.f kj16 bt344.1 bt344.2.1 bt344.2.2).bind fun t349 => ((laws_eqIntA2S.f kj16 t349 t319).bind fun t352 => (if t352 = true then ((laws_heldIntA2S.f kj16 t342 1).bind fun t353 => (if t353 < 0 then (some false) else (if t353 = t341 then (some true) else (some false)))) else (some false))))) else (some false)))) = some r := H
      have A45 := Aside0.mk A450
      clear A450
      replace H := Option.bind_eq_some_iff.mp H
      obtain ⟨t343, A460, H⟩ := H
      replace H : (if t343 < 0 then (some false) else (if t343 = t341 then ((laws_toFloor.f kj16 a0_0 a0_1 l0_2).bind fun bt344 => ((impl_Bridges.f kj16 bt344.1 bt344.2.1 bt344.2.2).bind fun t349 => ((laws_eqIntA2S.f kj16 t349 t319).bind fun t352 => (if t352 = true then ((laws_heldIntA2S.f kj16 t342 1).bind fun t353 => (if t353 < 0 then (some false) else (if t353 = t341 then (some true) else (some false)))) else (some false))))) else (some false))) = some r := H
      have A46 := Aside0.mk A460
      clear A460
      by_cases c47 : t343 < 0
      {
      rw [if_pos c47] at H
      have c47b0 : decide (t343 < 0) = true := decide_eq_true c47
      clear c47
      obtain rfl := Option.some.inj H
      exact absurd HTR_.out (by decide)
      }
      {
      rw [if_neg c47] at H
      have c47b0 : decide (t343 < 0) = false := decide_eq_false c47
      clear c47
      by_cases c48 : t343 = t341
      {
      rw [if_pos c48] at H
      have c48b0 : (t343 == t341) = true := beq_iff_eq.mpr c48
      have c48b1 : (t343 != t341) = false := bne_eq_false_iff_eq.mpr c48
      clear c48
      replace H := Option.bind_eq_some_iff.mp H
      obtain ⟨⟨t344, t345, t346⟩, A490, H⟩ := H
      replace H : ((impl_Bridges.f kj16 t344 t345 t346).bind fun t349 => ((laws_eqIntA2S.f kj16 t349 t319).bind fun t352 => (if t352 = true then ((laws_heldIntA2S.f kj16 t342 1).bind fun t353 => (if t353 < 0 then (some false) else (if t353 = t341 then (some true) else (some false)))) else (some false)))) = some r := H
      have A49 := Aside0.mk A490
      clear A490
      replace H := Option.bind_eq_some_iff.mp H
      obtain ⟨t349, A500, H⟩ := H
      replace H : ((laws_eqIntA2S.f kj16 t349 t319).bind fun t352 => (if t352 = true then ((laws_heldIntA2S.f kj16 t342 1).bind fun t353 => (if t353 < 0 then (some false) else (if t353 = t341 then (some true) else (some false)))) else (some false))) = some r := H
      have A50 := Aside0.mk A500
      clear A500
      replace H := Option.bind_eq_some_iff.mp H
      obtain ⟨t352, A510, H⟩ := H
      replace H : (if t352 = true then ((laws_heldIntA2S.f kj16 t342 1).bind fun t353 => (if t353 < 0 then (some false) else (if t353 = t341 then (some true) else (some false)))) else (some false)) = some r := H
      have A51 := Aside0.mk A510
      clear A510
      by_cases c52 : t352 = true
      {
      subst c52
      have H1 : ((laws_heldIntA2S.f kj16 t342 1).bind fun t353 => (if t353 < 0 then (some false) else (if t353 = t341 then (some true) else (some false)))) = some r := by rw [if_pos rfl] at H; exact H
      clear H
      have H := H1
      clear H1
      replace H := Option.bind_eq_some_iff.mp H
      obtain ⟨t353, A530, H⟩ := H
      replace H : (if t353 < 0 then (some false) else (if t353 = t341 then (some true) else (some false))) = some r := H
      have A53 := Aside0.mk A530
      clear A530
      by_cases c54 : t353 < 0
      {
      rw [if_pos c54] at H
      have c54b0 : decide (t353 < 0) = true := decide_eq_true c54
      clear c54
      obtain rfl := Option.some.inj H
      exact absurd HTR_.out (by decide)
      }
      {
      rw [if_neg c54] at H
      have c54b0 : decide (t353 < 0) = false := decide_eq_false c54
      clear c54
      by_cases c55 : t353 = t341
      {
      rw [if_pos c55] at H
      have c55b0 : (t353 == t341) = true := beq_iff_eq.mpr c55
      have c55b1 : (t353 != t341) = false := bne_eq_false_iff_eq.mpr c55
      clear c55
      obtain rfl := Option.some.inj H
      simp only [Option.some.injEq, Prod.mk.injEq] at H
      obtain ⟨rfl⟩ := H
      go_wp2_with (first | ((with_reducible refine gate_callee (f := 57) rfl ?_); refine goesL_ (some 45) rfl rfl Try.func57 (by kernel_rfl) rfl #[.slice Ao32 t328.length co32, .int .i64 1] rfl qz3 ?_; (with_reducible refine (laws_markIntA2S.calls kj16 (fun k_ => some k_ = (.slice Ao32 t328.length co32 : Value).ownBlock) (.slice Ao32 t328.length co32) t328 1 t341 t342 w _ ?side1 ?side2 A45.out).mono ?_); (case side1 => repeat (first | (with_reducible first | exact HB.out | apply below_alloc | apply pw_below_drewN | apply below_drew1 | refine below_set ?_ GE312.out | refine below_set ?_ GE327.out) | exact HB.out)); (case side2 => exact Kd.R_tight rfl HO_6.out); rintro e w56 ⟨rfl, hy0, hb, hkp⟩; refine ⟨_, rfl, ?_⟩; have n0_ := Aside0.mk (Kd.R_mono (ok' := fun k_ => some k_ ≠ (.slice Ao32 t328.length co32 : Value).ownBlock) (Kd.R_keptB (HO_4.out) hkp (fun k_ hk_ hs_ => (hk_) hs_)) (fun k_ hk_ => hk_.1)); have n1_ := Aside0.mk (Kd.R_reok rfl hy0 (fun k_ e_ => HO_6.out.1 k_ e_)); have n2_ := Aside0.mk (Kd.R_mono (ok' := fun k_ => True) (Kd.R_keptB ((Kd.R_apart' HO_328002.out (Kd.R_typed HO_6.out) (by decide))) hkp (fun k_ hk_ hs_ => (hk_.2) hs_)) (fun k_ hk_ => trivial)); have n3_ := Aside0.mk (blk_kept qz13 hkp (fun hs_ => (fun e_ => (Kd.R_ne HO_6.out BK312.out (by decide)) e_) hs_)); have n4_ := Aside0.mk (blk_kept (by (with_reducible repeat (first | refine blk_drewN ?_ _ | refine blk_drew ?_ | refine blk_alloc ?_ _)); exact BK327.out) hkp (fun hs_ => (fun e_ => (Kd.R_ne HO_6.out BK327.out (by decide)) e_) hs_)); have n5_ := Aside0.mk (hb); clear HO_4; clear HO_6; clear HO_328002; clear BK312; clear BK327; clear HB; have HO_4 := n0_; have HO_6 := n1_; have HO_328002 := n2_; have BK312 := n3_; have BK327 := n4_; have HB := n5_; clear n0_ n1_ n2_ n3_ n4_ n5_; (try clear hb); (try clear hkp); (try clear hy0)) | ((with_reducible refine gate_callee (f := 58) rfl ?_); refine goesL_ (some 48) rfl rfl Try.func58 (by kernel_rfl) rfl #[.slice Ao32 t342.length co32, .int .i64 1] rfl (by (try simp only [List.map_toArray, List.map_cons, List.map_nil]); first | done | (rw [show t342.length = t328.length from (Kd.R_reads' HO_6.out).1.symm] <;> rfl) | rfl | (simp only [List.length_drop, List.length_take]; rfl)) ?_; (with_reducible refine (laws_heldIntA2S.calls kj16 _ _ t342 1 t343 _ ?side1 ?side2 A46.out).mono ?_); (case side1 => repeat (first | exact (Kd.R_reads' HO_6.out).2.2 | (with_reducible refine Kd.C_alloc ?_ _) | (with_reducible refine Kd.C_drewN ?_ _) | (with_reducible refine Kd.C_drew ?_))); (case side2 => rw [show t342.length = t328.length from (Kd.R_reads' HO_6.out).1.symm]; exact (Kd.R_reads' HO_6.out).2.1); rintro e w' ⟨rfl, ⟨nd, rfl⟩⟩; refine ⟨_, rfl, ?_⟩; have hnb57 := NB312_327.out; have hnc57 := NB327_312.out; have hcz58_0 : w56.cell? ⟨gb312, 0, none⟩ = some (.int .i64 a0_0) := (blk_cell BK312.out 0).trans rfl; have hcz58_1 : w56.cell? ⟨gb312, 1, none⟩ = some (.int .i64 a0_1) := (blk_cell BK312.out 1).trans rfl; have hcz58_2 : w56.cell? ⟨gb312, 2, none⟩ = some (.slice A0_2 l0_2.length c0_2) := (blk_cell BK312.out 2).trans rfl; have hfz58_0 := blk_frozen BK312.out 0; have hfz58_1 := blk_frozen BK312.out 1; have hfz58_2 := blk_frozen BK312.out 2) | ((with_reducible refine gate_callee (f := 17) rfl ?_); refine goesL_ (some 55) rfl rfl Try.func17 (by kernel_rfl) rfl #[.agg #[.int .i64 a0_0, .int .i64 a0_1, .slice A0_2 l0_2.length c0_2]] rfl qz3 ?_; (with_reducible refine (laws_toFloor.calls kj16 a0_0 a0_1 _ _ l0_2 t344 t345 t346 _ ?side1 ?side2 A49.out).mono ?_); (case side1 => repeat (first | exact (Kd.C_below HR0_2.out qz7) | (with_reducible refine Kd.C_alloc ?_ _) | (with_reducible refine Kd.C_drewN ?_ _) | (with_reducible refine Kd.C_drew ?_))); (case side2 => exact HC0_2.out); rintro e w59 ⟨v347, rfl, ho0, hb⟩; refine ⟨_, rfl, ?_⟩; have n0_ := Aside0.mk (Kd.R_below (by (with_reducible repeat (first | apply Kd.R_alloc | apply Kd.R_drewN | apply Kd.R_drew)); exact HO_4.out) hb); have n1_ := Aside0.mk (Kd.R_below (by (with_reducible repeat (first | apply Kd.R_alloc | apply Kd.R_drewN | apply Kd.R_drew)); exact HO_6.out) hb); have n2_ := Aside0.mk (Kd.R_elder' (by (with_reducible repeat (first | apply Kd.R_alloc | apply Kd.R_drewN | apply Kd.R_drew)); exact HO_328002.out) (Kd.R_base ho0) hb); have n3_ := Aside0.mk (Kd.R_lower (Kd.R_new' ho0 (Kd.R_lt (by (with_reducible repeat (first | apply Kd.R_alloc | apply Kd.R_drewN | apply Kd.R_drew)); exact HO_328002.out))) (below_size qz7)); have n4_ := Aside0.mk (blk_below (g := gb312) (o := .cells #[.int .i64 a0_0, .int .i64 a0_1, .slice A0_2 l0_2.length c0_2] 24 (0, 0)) qz13 hb); have n5_ := Aside0.mk (blk_below (g := gb327) (o := .cells #[.int .i64 t322, .int .i64 t323, .slice Ao30 t339.length co30] 27 (0, 0)) (by (with_reducible repeat (first | refine blk_drewN ?_ _ | refine blk_drew ?_ | refine blk_alloc ?_ _)); exact BK327.out) hb); have n6_ := Aside0.mk (below_step qz7 hb); clear HO_4; clear HO_6; clear HO_328002; clear BK312; clear BK327; clear HB; have HO_4 := n0_; have HO_6 := n1_; have HO_328002 := n2_; have HO348 := n3_; have BK312 := n4_; have BK327 := n5_; have HB := n6_; clear n0_ n1_ n2_ n3_ n4_ n5_ n6_; (try clear hb); (try clear hb2); (try clear hk); (try clear hi); (try clear ho0); obtain ⟨Ao60, co60, eo60⟩ := Kd.R_slice HO348.out; subst eo60) | ((with_reducible refine gate_callee (f := 55) rfl ?_); refine goesL_ (some 56) rfl rfl Try.func55 (by kernel_rfl) rfl #[.agg #[.int .i64 t344, .int .i64 t345, .slice Ao60 t346.length co60]] rfl qz3 ?_; (with_reducible refine (impl_Bridges.calls kj16 t344 t345 _ _ t346 t349 _ ?side1 ?side2 A50.out).mono ?_); (case side1 => repeat (first | exact (Kd.R_reads' HO348.out).2.2 | (with_reducible refine Kd.C_alloc ?_ _) | (with_reducible refine Kd.C_drewN ?_ _) | (with_reducible refine Kd.C_drew ?_))); (case side2 => exact (Kd.R_reads' HO348.out).2.1); rintro e w61 ⟨v350, rfl, ho0, hb⟩; refine ⟨_, rfl, ?_⟩; have n0_ := Aside0.mk (Kd.R_elder' (by (with_reducible repeat (first | apply Kd.R_alloc | apply Kd.R_drewN | apply Kd.R_drew)); exact HO_4.out) (Kd.R_base ho0) hb); have n1_ := Aside0.mk (Kd.R_elder' (by (with_reducible repeat (first | apply Kd.R_alloc | apply Kd.R_drewN | apply Kd.R_drew)); exact HO_6.out) (Kd.R_base ho0) hb); have n2_ := Aside0.mk (Kd.R_below (by (with_reducible repeat (first | apply Kd.R_alloc | apply Kd.R_drewN | apply Kd.R_drew)); exact HO_328002.out) hb); have n3_ := Aside0.mk (Kd.R_below (by (with_reducible repeat (first | apply Kd.R_alloc | apply Kd.R_drewN | apply Kd.R_drew)); exact HO348.out) hb); have n4_ := Aside0.mk (Kd.R_lower (Kd.R_new' (Kd.R_new' ho0 (Kd.R_lt (by (with_reducible repeat (first | apply Kd.R_alloc | apply Kd.R_drewN | apply Kd.R_drew)); exact HO_4.out))) (Kd.R_lt (by (with_reducible repeat (first | apply Kd.R_alloc | apply Kd.R_drewN | apply Kd.R_drew)); exact HO_6.out))) (below_size qz7)); have n5_ := Aside0.mk (blk_below (g := gb312) (o := .cells #[.int .i64 a0_0, .int .i64 a0_1, .slice A0_2 l0_2.length c0_2] 24 (0, 0)) qz13 hb); have n6_ := Aside0.mk (blk_below (g := gb327) (o := .cells #[.int .i64 t322, .int .i64 t323, .slice Ao30 t339.length co30] 27 (0, 0)) (by (with_reducible repeat (first | refine blk_drewN ?_ _ | refine blk_drew ?_ | refine blk_alloc ?_ _)); exact BK327.out) hb); have n7_ := Aside0.mk (below_step qz7 hb); clear HO_4; clear HO_6; clear HO_328002; clear HO348; clear BK312; clear BK327; clear HB; have HO_4 := n0_; have HO_6 := n1_; have HO_328002 := n2_; have HO348 := n3_; have HO351 := n4_; have BK312 := n5_; have BK327 := n6_; have HB := n7_; clear n0_ n1_ n2_ n3_ n4_ n5_ n6_ n7_; (try clear hb); (try clear hb2); (try clear hk); (try clear hi); (try clear ho0); obtain ⟨Ao62, co62, eo62⟩ := Kd.R_slice HO351.out; subst eo62) | ((with_reducible refine gate_callee (f := 56) rfl ?_); refine goesL_ (some 59) rfl rfl Try.func56 (by kernel_rfl) rfl #[.slice Ao62 t349.length co62, .slice Ao33 t319.length co33] rfl qz3 ?_; (with_reducible refine (laws_eqIntA2S.calls kj16 _ _ t349 _ _ t319 true _ ?side1 ?side2 ?side3 ?side4 A51.out).mono ?_); (case side1 => repeat (first | exact (Kd.R_reads' HO351.out).2.2 | (with_reducible refine Kd.C_alloc ?_ _) | (with_reducible refine Kd.C_drewN ?_ _) | (with_reducible refine Kd.C_drew ?_))); (case side2 => exact (Kd.R_reads' HO351.out).2.1); (case side3 => repeat (first | exact (Kd.R_reads' HO_4.out).2.2 | (with_reducible refine Kd.C_alloc ?_ _) | (with_reducible refine Kd.C_drewN ?_ _) | (with_reducible refine Kd.C_drew ?_))); (case side4 => exact (Kd.R_reads' HO_4.out).2.1); rintro e w63 ⟨rfl, hb⟩; refine ⟨_, rfl, ?_⟩; have n0_ := Aside0.mk (Kd.R_below (by (with_reducible repeat (first | apply Kd.R_alloc | apply Kd.R_drewN | apply Kd.R_drew)); exact HO_4.out) hb); have n1_ := Aside0.mk (Kd.R_below (by (with_reducible repeat (first | apply Kd.R_alloc | apply Kd.R_drewN | apply Kd.R_drew)); exact HO_6.out) hb); have n2_ := Aside0.mk (Kd.R_below (by (with_reducible repeat (first | apply Kd.R_alloc | apply Kd.R_drewN | apply Kd.R_drew)); exact HO_328002.out) hb); have n3_ := Aside0.mk (Kd.R_below (by (with_reducible repeat (first | apply Kd.R_alloc | apply Kd.R_drewN | apply Kd.R_drew)); exact HO348.out) hb); have n4_ := Aside0.mk (Kd.R_below (by (with_reducible repeat (first | apply Kd.R_alloc | apply Kd.R_drewN | apply Kd.R_drew)); exact HO351.out) hb); have n5_ := Aside0.mk (blk_below (g := gb312) (o := .cells #[.int .i64 a0_0, .int .i64 a0_1, .slice A0_2 l0_2.length c0_2] 24 (0, 0)) qz13 hb); have n6_ := Aside0.mk (blk_below (g := gb327) (o := .cells #[.int .i64 t322, .int .i64 t323, .slice Ao30 t339.length co30] 27 (0, 0)) (by (with_reducible repeat (first | refine blk_drewN ?_ _ | refine blk_drew ?_ | refine blk_alloc ?_ _)); exact BK327.out) hb); have n7_ := Aside0.mk (below_step qz7 hb); clear HO_4; clear HO_6; clear HO_328002; clear HO348; clear HO351; clear BK312; clear BK327; clear HB; have HO_4 := n0_; have HO_6 := n1_; have HO_328002 := n2_; have HO348 := n3_; have HO351 := n4_; have BK312 := n5_; have BK327 := n6_; have HB := n7_; clear n0_ n1_ n2_ n3_ n4_ n5_ n6_ n7_; (try clear hb); (try clear hb2); (try clear hk); (try clear hi)) | ((with_reducible refine gate_callee (f := 58) rfl ?_); refine goesL_ (some 63) rfl rfl Try.func58 (by kernel_rfl) rfl #[.slice Ao32 t342.length co32, .int .i64 1] rfl (by (try simp only [List.map_toArray, List.map_cons, List.map_nil]); first | done | (rw [show t342.length = t328.length from (Kd.R_reads' HO_6.out).1.symm] <;> rfl) | rfl | (simp only [List.length_drop, List.length_take]; rfl)) ?_; (with_reducible refine (laws_heldIntA2S.calls kj16 _ _ t342 1 t353 _ ?side1 ?side2 A53.out).mono ?_); (case side1 => repeat (first | exact (Kd.R_reads' HO_6.out).2.2 | (with_reducible refine Kd.C_alloc ?_ _) | (with_reducible refine Kd.C_drewN ?_ _) | (with_reducible refine Kd.C_drew ?_))); (case side2 => rw [show t342.length = t328.length from (Kd.R_reads' HO_6.out).1.symm]; exact (Kd.R_reads' HO_6.out).2.1); rintro e w' ⟨rfl, ⟨nd, rfl⟩⟩; refine ⟨_, rfl, ?_⟩))
      go_ret
      exact ⟨by first | rfl | (simp [errW_none, errW_some] <;> rfl) | (simp [*, errW_none, errW_some] <;> rfl), by repeat (first | (with_reducible first | exact HB.out | apply below_alloc | apply pw_below_drewN | apply below_drew1 | refine below_set ?_ GE312.out | refine below_set ?_ GE327.out) | exact HB.out)⟩
      }
      {
      rw [if_neg c55] at H
      have c55b0 : (t353 == t341) = false := beq_eq_false_iff_ne.mpr c55
      have c55b1 : (t353 != t341) = true := bne_iff_ne.mpr c55
      obtain rfl := Option.some.inj H
      exact absurd HTR_.out (by decide)
      }
      }
      }
      {
      replace c52 := Bool.eq_false_iff.mpr c52
      subst c52
      have H1 : (some false) = some r := by rw [if_neg (show ¬ (false = true) by decide)] at H; exact H
      clear H
      have H := H1
      clear H1
      obtain rfl := Option.some.inj H
      exact absurd HTR_.out (by decide)
      }
      }
      {
      rw [if_neg c48] at H
      have c48b0 : (t343 == t341) = false := beq_eq_false_iff_ne.mpr c48
      have c48b1 : (t343 != t341) = true := bne_iff_ne.mpr c48
      obtain rfl := Option.some.inj H
      exact absurd HTR_.out (by decide)
      }
      }
      }
  }
  {
  replace c15 := Bool.eq_false_iff.mpr c15
  subst c15
  have H1 : (some false) = some r := by rw [if_neg (show ¬ (false = true) by decide)] at H; exact H
  clear H
  have H := H1
  clear H1
  obtain rfl := Option.some.inj H
  exact absurd HTR_.out (by decide)
  }
  }
  {
  replace c12 := Bool.eq_false_iff.mpr c12
  subst c12
  have H1 : (some false) = some r := by rw [if_neg (show ¬ (false = true) by decide)] at H; exact H
  clear H
  have H := H1
  clear H1
  obtain rfl := Option.some.inj H
  exact absurd HTR_.out (by decide)

  }
  }
end Go.Proofs.Ytmjpmekckgjcpaa.PFnExactBridges
