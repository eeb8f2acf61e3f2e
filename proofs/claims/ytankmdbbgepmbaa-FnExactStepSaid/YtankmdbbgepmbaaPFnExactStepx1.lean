-- Made by a program of this session out of the translation. Lean checks it.
import Derived.Test.YtankmdbbgepmbaaPFnExactStepx0
namespace Go.Proofs.Ytankmdbbgepmbaa.PFnExactStep
open Go.RowKit Go.Proofs.YtankmdbbgepmbaaW.PrintWords Go.Proofs.YtankmdbbgepmbaaW.PrintLast Go.Proofs.YtankmdbbgepmbaaW.PrintMore
attribute [local go_sem] max2_int min2_int max_two min_two max_three min_three max_four min_four   -- for this text's walks alone
set_option linter.unusedVariables false
set_option linter.unusedSimpArgs false

/-! ### laws_szRobotS: function 14 -/
def laws_szRobotS.f (l0 : List (S40)) (a1 : Int) : Option (Int) := if (wrap64 (a1 - (l0.length : Int))) < 0 then (some (-1)) else (some (wrap64 (a1 - (l0.length : Int))))
set_option maxHeartbeats 8000000 in
set_option maxRecDepth 100000 in
theorem laws_szRobotS.calls (A0 : Option Addr) (c0 : Nat) (l0 : List (S40)) (a1 : Int) (r : Int) (w : World) (hr0 : Kd.C k40 w A0 l0.length l0) (hc0 : l0.length ≤ c0) (h : laws_szRobotS.f l0 a1 = some r) :
  Calls Try.prog 14 #[.slice A0 l0.length c0, .int .i64 a1] w fun e w' => e = .returned (.int .i64 r) ∧ Drawn0 w w' := by
 have HR0 := aM hr0
 have HC0 := aM hc0
 clear hr0 hc0
 have H : (if (wrap64 (a1 - (l0.length : Int))) < 0 then (some (-1)) else (some (wrap64 (a1 - (l0.length : Int))))) = some r := h
 clear h
 by_cases c3 : (wrap64 (a1 - (l0.length : Int))) < 0
 {
 rw [if_pos c3] at H
 have c3b0 := decide_eq_true c3
 clear c3
 obtain rfl := Option.some.inj H
 simp only [Option.some.injEq, Prod.mk.injEq] at H
 obtain ⟨rfl⟩ := H
 go_enter Try.func14, Try.ntmps14
 go_wp2
 go_ret
 exact ⟨by first | rfl | (simp; done) | (simp [*]; done), by repeat (first | exact Drawn0.refl _ | apply Drawn0.step)⟩
 }
 {
 rw [if_neg c3] at H
 have c3b0 := decide_eq_false c3
 clear c3
 obtain rfl := Option.some.inj H
 simp only [Option.some.injEq, Prod.mk.injEq] at H
 obtain ⟨rfl⟩ := H
 go_enter Try.func14, Try.ntmps14
 go_wp2
 go_ret
 exact ⟨by first | rfl | (simp; done) | (simp [*]; done), by repeat (first | exact Drawn0.refl _ | apply Drawn0.step)⟩

 }
/-! ### laws_toRobot: function 28 -/
def laws_toRobot.f (a0_0 : Int) (a0_1 : Int) (a0_2 : Int) (a0_3 : Bool) (a0_4 : Int) : Option (Int × Int × Int × Bool × Int) := some (a0_0, a0_1, a0_2, a0_3, a0_4)
set_option maxHeartbeats 8000000 in
set_option maxRecDepth 100000 in
theorem laws_toRobot.calls (a0_0 : Int) (a0_1 : Int) (a0_2 : Int) (a0_3 : Bool) (a0_4 : Int) (r1 : Int) (r2 : Int) (r3 : Int) (r4 : Bool) (r5 : Int) (w : World) (h : laws_toRobot.f a0_0 a0_1 a0_2 a0_3 a0_4 = some (r1, r2, r3, r4, r5)) :
  Calls Try.prog 28 #[.agg #[.int .i64 a0_0, .int .i64 a0_1, .int .i64 a0_2, .bool a0_3, .int .i64 a0_4]] w fun e w' => e = .returned (.agg #[.int .i64 r1, .int .i64 r2, .int .i64 r3, .bool r4, .int .i64 r5]) ∧ Below w.heap.size w w' := by
 have hu40 := Try.underlying40
 have hu37 := Try.underlying37
 have HB := aM (Below.refl w.heap.size w)
 have H : (some (a0_0, a0_1, a0_2, a0_3, a0_4)) = some (r1, r2, r3, r4, r5) := h
 clear h
 simp only [Option.some.injEq, Prod.mk.injEq] at H
 obtain ⟨rfl, rfl, rfl, rfl, rfl⟩ := H
 go_enter Try.func28, Try.ntmps28
 go_wp2_with (first | ((with_reducible refine gate_dst (N := 1) rfl ?_); refine bx_ 1 #[.int .i64 a0_0, .int .i64 a0_1, .int .i64 a0_2, .bool a0_3, .int .i64 a0_4] 40 ?_; intro gb101 hg w2 hbox hb; have BK101 := aM (hbox); have GW101 := aM (bz_ w hg qz1); have GE101 := GW101; replace HB := bS_ hb; clear hb hbox hg) | ((with_reducible refine gate_dst (N := 2) rfl ?_); refine bx_ 2 #[.int .i64 0, .int .i64 0, .int .i64 0, .bool false, .int .i64 0] 37 ?_; intro gb102 hg w3 hbox hb; have BK102 := aM (hbox); have GW102 := aM (bz_ w hg qz1); have GE102 := GW102; replace HB := bS_ hb; obtain ⟨NB101_102, NB102_101⟩ := nb_ hg (bk_ BK101.out); replace BK101 := bB_ BK101 hb; clear hb hbox hg) | ((with_reducible refine gate_dst (N := 3) rfl ?_); refine bx_ 3 #[.int .i64 0, .int .i64 0, .int .i64 0, .bool false, .int .i64 0] 37 ?_; intro gb103 hg w4 hbox hb; have BK103 := aM (hbox); have GW103 := aM (bz_ w hg qz1); have GE103 := GW103; replace HB := bS_ hb; obtain ⟨NB101_103, NB103_101⟩ := nb_ hg (bk_ BK101.out); replace BK101 := bB_ BK101 hb; obtain ⟨NB102_103, NB103_102⟩ := nb_ hg (bk_ BK102.out); replace BK102 := bB_ BK102 hb; clear hb hbox hg; have hnb5 := NB101_102.out; have hnc5 := NB102_101.out; have hnb6 := NB101_103.out; have hnc6 := NB103_101.out; have hcz7_0 := bc0_ BK101.out; have hcz7_1 := bc1_ BK101.out; have hcz7_2 := bc2_ BK101.out; have hcz7_3 := bc3_ BK101.out; have hcz7_4 := bc4_ BK101.out; have hfz7_0 := blk_frozen BK101.out 0; have hfz7_1 := blk_frozen BK101.out 1; have hfz7_2 := blk_frozen BK101.out 2; have hfz7_3 := blk_frozen BK101.out 3; have hfz7_4 := blk_frozen BK101.out 4; have hnb8 := NB103_102.out; have hnc8 := NB102_103.out; have hcz9_0 := bc0_ BK103.out; have hcz9_1 := bc1_ BK103.out; have hcz9_2 := bc2_ BK103.out; have hcz9_3 := bc3_ BK103.out; have hcz9_4 := bc4_ BK103.out; have hfz9_0 := blk_frozen BK103.out 0; have hfz9_1 := blk_frozen BK103.out 1; have hfz9_2 := blk_frozen BK103.out 2; have hfz9_3 := blk_frozen BK103.out 3; have hfz9_4 := blk_frozen BK103.out 4; have hcz10_0 := bc0_ BK102.out; have hcz10_1 := bc1_ BK102.out; have hcz10_2 := bc2_ BK102.out; have hcz10_3 := bc3_ BK102.out; have hcz10_4 := bc4_ BK102.out; have hfz10_0 := blk_frozen BK102.out 0; have hfz10_1 := blk_frozen BK102.out 1; have hfz10_2 := blk_frozen BK102.out 2; have hfz10_3 := blk_frozen BK102.out 3; have hfz10_4 := blk_frozen BK102.out 4))
 refine bodyPost_ret (results_cell_row rfl _ _ gb102 37 #[.int .i64 a0_0, .int .i64 a0_1, .int .i64 a0_2, .bool a0_3, .int .i64 a0_4] (0, 0) _ rfl (by (with_reducible repeat (first | refine blk_drewN ?_ _ | refine blk_drew ?_ | refine blk_alloc ?_ _)); refine blk_put (cs := #[.int .i64 a0_0, .int .i64 a0_1, .int .i64 a0_2, .bool a0_3, .int .i64 0]) ?_ 4 _ rfl; (with_reducible repeat (first | refine blk_drewN ?_ _ | refine blk_drew ?_ | refine blk_alloc ?_ _)); refine blk_put (cs := #[.int .i64 a0_0, .int .i64 a0_1, .int .i64 a0_2, .bool false, .int .i64 0]) ?_ 3 _ rfl; (with_reducible repeat (first | refine blk_drewN ?_ _ | refine blk_drew ?_ | refine blk_alloc ?_ _)); refine blk_put (cs := #[.int .i64 a0_0, .int .i64 a0_1, .int .i64 0, .bool false, .int .i64 0]) ?_ 2 _ rfl; (with_reducible repeat (first | refine blk_drewN ?_ _ | refine blk_drew ?_ | refine blk_alloc ?_ _)); refine blk_put (cs := #[.int .i64 a0_0, .int .i64 0, .int .i64 0, .bool false, .int .i64 0]) ?_ 1 _ rfl; (with_reducible repeat (first | refine blk_drewN ?_ _ | refine blk_drew ?_ | refine blk_alloc ?_ _)); refine blk_put (cs := #[.int .i64 0, .int .i64 0, .int .i64 0, .bool false, .int .i64 0]) ?_ 0 _ rfl; (with_reducible repeat (first | refine blk_drewN ?_ _ | refine blk_drew ?_ | refine blk_alloc ?_ _)); exact bk2_ BK102.out) Try.underlying37 rfl (by kernel_rfl)) rfl ?_
 exact ⟨qzw, qz1⟩

/-! ### laws_toRobotS: function 16 -/
def laws_toRobotS.l0 : Nat → List (S40) → List (S37) → Int → Option ((List (S37)))
 | 0, _, _, _ => none
 | k + 1, x0, x3, x4 => if x4 < (x0.length : Int) then (if 0 ≤ x4 then ((laws_toRobot.f ((rd_T40 x0 x4).f0) ((rd_T40 x0 x4).f1) ((rd_T40 x0 x4).f2) ((rd_T40 x0 x4).f3) ((rd_T40 x0 x4).f4)).bind fun bt108 => (if x4 < (x3.length : Int) then (laws_toRobotS.l0 k x0 (x3.set (x4 : Int).toNat (⟨bt108.1, bt108.2.1, bt108.2.2.1, bt108.2.2.2.1, bt108.2.2.2.2⟩ : S37)) (wrap64 (x4 + 1))) else (none))) else (none)) else (some x3)
def laws_toRobotS.f (k : Nat) (l0 : List (S40)) : Option ((List (S37))) := if 0 ≤ (l0.length : Int) then (if ((l0.length : Int) : Int).toNat ≤ 7036874417766 then (laws_toRobotS.l0 k l0 (List.replicate ((l0.length : Int) : Int).toNat z37) 0) else (none)) else (none)
theorem laws_toRobotS.mono_l : ∀ k, (∀ y0 y1 y2, LeO (laws_toRobotS.l0 k y0 y1 y2) (laws_toRobotS.l0 (k + 1) y0 y1 y2))
 | 0 => fun _ _ _ r h => by simp [laws_toRobotS.l0] at h
 | k + 1 => by
  have ih0 := laws_toRobotS.mono_l k
  {
  intro y0 y1 y2
  unfold laws_toRobotS.l0
  exact qL
  }
theorem laws_toRobotS.mono : ∀ a0 k, LeO (laws_toRobotS.f k a0) (laws_toRobotS.f (k + 1) a0) := by
 intro a0 k
 have ih0 := laws_toRobotS.mono_l k
 unfold laws_toRobotS.f
 exact qL
set_option maxHeartbeats 8000000 in
set_option maxRecDepth 100000 in
theorem laws_toRobotS.calls (k : Nat) (A0 : Option Addr) (c0 : Nat) (l0 : List (S40)) (r : List (S37)) (w : World) (hr0 : Kd.C k40 w A0 l0.length l0) (hc0 : l0.length ≤ c0) (h : laws_toRobotS.f k l0 = some r) :
  Calls Try.prog 16 #[.slice A0 l0.length c0] w fun e w' => ∃ v0_ : Value, e = .returned (v0_) ∧ Kd.R k37 37 w' w.heap.size (fun _ => True) v0_ r ∧ Below w.heap.size w w' := by
 have hu40 := Try.underlying40
 have hu37 := Try.underlying37
 have HR0 := aM hr0
 have HC0 := aM hc0
 clear hr0 hc0
 have HB := aM (Below.refl w.heap.size w)
 have H : (if 0 ≤ (l0.length : Int) then (if ((l0.length : Int) : Int).toNat ≤ 7036874417766 then (laws_toRobotS.l0 k l0 (List.replicate ((l0.length : Int) : Int).toNat z37) 0) else (none)) else (none)) = some r := h
 clear h
 by_cases c2 : 0 ≤ (l0.length : Int)
 {
 rw [if_pos c2] at H
 have c2b0 := eq_true c2
 have c2b1 := decide_eq_true c2
 clear c2
 by_cases c3 : ((l0.length : Int) : Int).toNat ≤ 7036874417766
 {
 rw [if_pos c3] at H
 have c3b0 := eq_true c3
 have c3b1 := decide_eq_true c3
 clear c3
 obtain ⟨y104, hy104⟩ : ∃ y_ : List (S37), y_ = (List.replicate ((l0.length : Int) : Int).toNat z37) := ⟨_, rfl⟩
 replace H : (laws_toRobotS.l0 k l0 y104 0) = some r := by first | (rw [hy104]; with_reducible exact H) | (have H2_ := (Option.bind_some _ _).symm.trans H; rw [hy104]; with_reducible exact H2_) | (have H2_ := (Option.bind_some _ _).symm.trans H; with_reducible exact H2_) | with_reducible exact H | (rw [hy104]; exact H) | exact H
 have Ny104 := aM hy104
 clear hy104
 have H' := aM H
 clear H
 go_enter Try.func16, Try.ntmps16
 go_wp2_with (first | ((with_reducible refine gate_dst (N := 7) rfl ?_); refine Kd.R_make k37 _ 37 rfl (N := 7) rfl 26 _ _ rfl (l0.length : Int) rfl rfl Try.underlying26 (.agg #[(.int .i64 0), (.int .i64 0), (.int .i64 0), (.bool false), (.int .i64 0)]) 40 info37 rfl (by decide) (by omega) z37 (ok := fun _ => True) (okp := fun _ => True) (k37_mkM _ _ _ z37 ) (fun _ hk => hk) trivial (dt_) (Nat.le_trans (Nat.mul_le_mul_right _ (dt_ : (l0.length : Int).toNat ≤ 7036874417766)) (by omega)) (Below.refl _ _) (Nat.le_refl _) ?_; intro v105 w4 ho5 hb hg_ hnew_; clear hg_ hnew_; (first | rw [← Ny104.out] at ho5 | (simp only [Int.reduceToNat] at ho5; rw [← Ny104.out] at ho5)); have HO106 := aM (Kd.R_lower ho5 (below_size qz1)); replace HB := bS_ hb; clear hb ho5))
 go_loopg [4] k (fun kq v4 w' => ∃ (x3_1 : List (S37)) (x4_1 : Int), v4 = .int .i64 x4_1 ∧ Aside0 (laws_toRobotS.l0 kq l0 x3_1 x4_1 = some r) ∧ Aside0 (kq ≤ k) ∧ Aside0 (Kd.R k37 37 w' w.heap.size (fun _ => True) v105 x3_1) ∧ Aside0 (Below w.heap.size w w'))
 case atStart => exact ⟨(y104), (0), qz4, H', ⟨Nat.le_refl _⟩, ⟨rr_ HO106.out⟩, ⟨qz1⟩⟩
 case round =>
  clear H'
  try clear c1
  try clear c2
  try clear c2b0
  try clear c2b1
  try clear p2
  try clear c3
  try clear c3b0
  try clear c3b1
  obtain ⟨x3_1, x4_1, rfl, HA, HK1, HO_3, HB⟩ := hrel
  cases gk with
  | zero => exact absurd HA.out (by simp [laws_toRobotS.l0])
  | succ k1 =>
   have H := HA.out
   clear HA
   simp only [laws_toRobotS.l0] at H
   by_cases c6 : x4_1 < (l0.length : Int)
   {
   rw [if_pos c6] at H
   have c6b0 := decide_eq_true c6
   clear c6
   by_cases c7 : 0 ≤ x4_1
   {
   rw [if_pos c7] at H
   have c7b0 := decide_eq_true c7
   clear c7
   replace H := Option.bind_eq_some_iff.mp H
   obtain ⟨⟨t108, t109, t110, t111, t112⟩, A80, H⟩ := H
   replace H : (if x4_1 < (x3_1.length : Int) then (laws_toRobotS.l0 k1 l0 (x3_1.set (x4_1 : Int).toNat (⟨t108, t109, t110, t111, t112⟩ : S37)) (wrap64 (x4_1 + 1))) else (none)) = some r := H
   have A8 := aM A80
   clear A80
   by_cases c9 : x4_1 < (x3_1.length : Int)
   {
   rw [if_pos c9] at H
   have c9b0 := decide_eq_true c9
   clear c9
   obtain ⟨y113, hy113⟩ : ∃ y_ : List (S37), y_ = (x3_1.set (x4_1 : Int).toNat (⟨t108, t109, t110, t111, t112⟩ : S37)) := ⟨_, rfl⟩
   replace H : (laws_toRobotS.l0 k1 l0 y113 (wrap64 (x4_1 + 1))) = some r := by first | (rw [hy113]; with_reducible exact H) | (have H2_ := (Option.bind_some _ _).symm.trans H; rw [hy113]; with_reducible exact H2_) | (have H2_ := (Option.bind_some _ _).symm.trans H; with_reducible exact H2_) | with_reducible exact H | (rw [hy113]; exact H) | exact H
   have Ny113 := aM hy113
   clear hy113
   have H' := aM H
   clear H
   have p107 : 0 ≤ (x4_1 : Int) := dt_
   have q107 : x4_1 < (l0.length : Int) := dt_
   obtain ⟨ad107, e107, hx107_0, hx107_1, hx107_2, hx107_3, hx107_4⟩ := at_T40 HR0.out x4_1 p107 q107
   cases e107
   replace hx107_0 := cB_ hx107_0
   replace hx107_1 := cB_ hx107_1
   replace hx107_2 := cB_ hx107_2
   replace hx107_3 := cB_ hx107_3
   replace hx107_4 := cB_ hx107_4
   replace p107 := eq_true p107
   replace q107 := eq_true q107
   go_wp2_with (first | ((with_reducible refine gate_callee (f := 28) rfl ?_); refine goesL_ (some 20) rfl rfl Try.func28 (by kernel_rfl) rfl #[.agg #[.int .i64 ((rd_T40 l0 x4_1).f0), .int .i64 ((rd_T40 l0 x4_1).f1), .int .i64 ((rd_T40 l0 x4_1).f2), .bool ((rd_T40 l0 x4_1).f3), .int .i64 ((rd_T40 l0 x4_1).f4)]] rfl qz2 ?_; (with_reducible refine (laws_toRobot.calls ((rd_T40 l0 x4_1).f0) ((rd_T40 l0 x4_1).f1) ((rd_T40 l0 x4_1).f2) ((rd_T40 l0 x4_1).f3) ((rd_T40 l0 x4_1).f4) t108 t109 t110 t111 t112 _ A8.out).mono ?_); rintro e w11 ⟨rfl, hb⟩; refine ⟨_, rfl, ?_⟩; replace HO_3 := aM (Kd.R_below (rr_ HO_3.out) hb); replace HB := bS_ hb; (try clear hb); have p10 : 0 ≤ (x4_1 : Int) := dt_; have q10 : (x4_1 : Int) < ((x3_1.length : Int) : Int) := dt_; obtain ⟨go10, co10, eo10, gb10, gl10, cl10, HG10⟩ := Kd.R_form HO_3.out (by omega); (first | cases eo10 | (injection eo10 with ea_ en_ ec_; (first | subst ea_ | (injection ea_ with ea_; subst ea_)); subst ec_; clear en_)); have GB10 := aM gb10; have GG10 := aM HG10; clear gb10 gl10 HG10; obtain ⟨ce10, hcl10, hM10, hcc10, hfr10⟩ := Kd.R_elem HO_3.out z37 (x4_1 : Int) p10 q10; obtain rfl := k37_openM hM10; have hx10_0 : w11.cell? ⟨go10, (x4_1 : Int).toNat * 5, none⟩ = some (.int .i64 ((rd_T37 x3_1 x4_1).f0)) := hcc10 0 _ rfl; have hx10_1 : w11.cell? ⟨go10, (x4_1 : Int).toNat * 5 + 1, none⟩ = some (.int .i64 ((rd_T37 x3_1 x4_1).f1)) := hcc10 1 _ rfl; have hx10_2 : w11.cell? ⟨go10, (x4_1 : Int).toNat * 5 + 2, none⟩ = some (.int .i64 ((rd_T37 x3_1 x4_1).f2)) := hcc10 2 _ rfl; have hx10_3 : w11.cell? ⟨go10, (x4_1 : Int).toNat * 5 + 3, none⟩ = some (.bool ((rd_T37 x3_1 x4_1).f3)) := hcc10 3 _ rfl; have hx10_4 : w11.cell? ⟨go10, (x4_1 : Int).toNat * 5 + 4, none⟩ = some (.int .i64 ((rd_T37 x3_1 x4_1).f4)) := hcc10 4 _ rfl; have hf10_0 : w11.frozen? ⟨go10, (x4_1 : Int).toNat * 5, none⟩ = false := hfr10 0; have hf10_1 : w11.frozen? ⟨go10, (x4_1 : Int).toNat * 5 + 1, none⟩ = false := hfr10 1; have hf10_2 : w11.frozen? ⟨go10, (x4_1 : Int).toNat * 5 + 2, none⟩ = false := hfr10 2; have hf10_3 : w11.frozen? ⟨go10, (x4_1 : Int).toNat * 5 + 3, none⟩ = false := hfr10 3; have hf10_4 : w11.frozen? ⟨go10, (x4_1 : Int).toNat * 5 + 4, none⟩ = false := hfr10 4; clear hcl10 hcc10 hfr10; (try clear hM10); replace p10 := eq_true p10; replace q10 := eq_true q10; have HX12 := aM (show Kd.R k37 37 w11 w.heap.size (fun _ => True) (.slice (some ⟨go10, 0, none⟩) x3_1.length co10) x3_1 from (rr_ HO_3.out)); obtain ⟨ce12, hcl12, hM12, hcc12, hfr12⟩ := Kd.R_elem HX12.out z37 (x4_1 : Int) (dt_) (by have h_ : (x4_1 : Int) < ((x3_1.length : Int) : Int) := dt_; first | exact h_ | (have e_ := (Kd.R_reads' HO_3.out).1; omega) | simpa using h_); obtain rfl := k37_openM hM12; have HP12 := Kd.R_seg HX12.out (x4_1 : Int) (dt_) (by have h_ : (x4_1 : Int) < ((x3_1.length : Int) : Int) := dt_; first | exact h_ | (have e_ := (Kd.R_reads' HO_3.out).1; omega) | simpa using h_) (seg := [.int .i64 t108, .int .i64 t109, .int .i64 t110, .bool t111, .int .i64 t112]) (j := 0) hcl12 hcc12 (show 5 ≤ 5 from by decide) (x' := (⟨t108, t109, t110, t111, t112⟩ : S37)) (k37_mkM _ _ _ (⟨t108, t109, t110, t111, t112⟩ : S37) ) (fun _ hk => hk); have hx12_0 := hcc12 0 _ rfl; (try simp only [show (k37).sz = 5 from rfl, Nat.mul_one, Nat.add_zero] at hx12_0); have hf12_0 := hfr12 0; (try simp only [show (k37).sz = 5 from rfl, Nat.mul_one, Nat.add_zero] at hf12_0); have hx12_1 := hcc12 1 _ rfl; (try simp only [show (k37).sz = 5 from rfl, Nat.mul_one, Nat.add_zero] at hx12_1); have hf12_1 := hfr12 1; (try simp only [show (k37).sz = 5 from rfl, Nat.mul_one, Nat.add_zero] at hf12_1); have hx12_2 := hcc12 2 _ rfl; (try simp only [show (k37).sz = 5 from rfl, Nat.mul_one, Nat.add_zero] at hx12_2); have hf12_2 := hfr12 2; (try simp only [show (k37).sz = 5 from rfl, Nat.mul_one, Nat.add_zero] at hf12_2); have hx12_3 := hcc12 3 _ rfl; (try simp only [show (k37).sz = 5 from rfl, Nat.mul_one, Nat.add_zero] at hx12_3); have hf12_3 := hfr12 3; (try simp only [show (k37).sz = 5 from rfl, Nat.mul_one, Nat.add_zero] at hf12_3); have hx12_4 := hcc12 4 _ rfl; (try simp only [show (k37).sz = 5 from rfl, Nat.mul_one, Nat.add_zero] at hx12_4); have hf12_4 := hfr12 4; (try simp only [show (k37).sz = 5 from rfl, Nat.mul_one, Nat.add_zero] at hf12_4); clear hcl12 hcc12 hfr12; (try clear hM12)) | ((with_reducible refine gate_store (t := 37) (p := 21) rfl ?_); refine store_event (t := 37) (p := 21) (v := ?vo_w13) (w1 := (((((w11.setCell ⟨go10, (x4_1 : Int).toNat * 5, none⟩ (.int .i64 t108)).setCell ⟨go10, (x4_1 : Int).toNat * 5 + 1, none⟩ (.int .i64 t109)).setCell ⟨go10, (x4_1 : Int).toNat * 5 + 2, none⟩ (.int .i64 t110)).setCell ⟨go10, (x4_1 : Int).toNat * 5 + 3, none⟩ (.bool t111)).setCell ⟨go10, (x4_1 : Int).toNat * 5 + 4, none⟩ (.int .i64 t112))) ?hg ?ho ?hn ?hr ?_; (case ho => rfl); (case hg => rfl); (case hn => rfl); (case hr => exact qz6); intro w13 hw; have hg : w11.grownBy w13 (some go10) := (by rw [hw]; exact HP12.2); have hp_ : Kd.R k37 37 w13 w.heap.size (fun _ => True) (.slice (some ⟨go10, 0, none⟩) x3_1.length co10) y113 := (by rw [hw, Ny113.out]; exact HP12.1); clear HP12; replace HO_3 := aM (hp_); replace HB := aM ((by rw [hw]; exact below_set (below_set (below_set (below_set (below_set (HB.out) GB10.out) GB10.out) GB10.out) GB10.out) GB10.out : Below w.heap.size w w13)); clear hg hw hp_))
   go_roundg k1
   case measure => have := HK1.out; omega
   case rel => exact ⟨(y113), (wrap64 (x4_1 + 1)), qz4, H', ⟨by have := HK1.out; omega⟩, ⟨rm_ HO_3.out⟩, ⟨qz1⟩⟩
   }
   {
   exact an_ c9 H
   }
   }
   {
   exact an_ c7 H
   }
   }
   {
   rw [if_neg c6] at H
   have c6b0 := decide_eq_false c6
   clear c6
   obtain rfl := Option.some.inj H
   simp only [Option.some.injEq, Prod.mk.injEq] at H
   obtain ⟨rfl⟩ := H
   go_wp2
   go_ret
   exact ⟨_, qzw, by (with_reducible repeat (first | apply Kd.R_alloc | apply Kd.R_drewN | apply Kd.R_drew)); exact HO_3.out, qz1⟩
   }
 }
 {
 exact an_ c3 H
 }
 }
 {
 exact an_ c2 H

 }
/-! ### laws_eqIntS: function 18 -/
def laws_eqIntS.l0 : Nat → List Int → List Int → Int → Option (Bool)
 | 0, _, _, _ => none
 | k + 1, x0, x1, x5 => if x5 < (x0.length : Int) then (if 0 ≤ x5 then (if x5 < (x1.length : Int) then (if (rd x0 x5) = (rd x1 x5) then (laws_eqIntS.l0 k x0 x1 (wrap64 (x5 + 1))) else (some false)) else (none)) else (none)) else (some true)
def laws_eqIntS.f (k : Nat) (l0 : List Int) (l1 : List Int) : Option (Bool) := if (l0.length : Int) = (l1.length : Int) then (laws_eqIntS.l0 k l0 l1 0) else (some false)
theorem laws_eqIntS.mono_l : ∀ k, (∀ y0 y1 y2, LeO (laws_eqIntS.l0 k y0 y1 y2) (laws_eqIntS.l0 (k + 1) y0 y1 y2))
 | 0 => fun _ _ _ r h => by simp [laws_eqIntS.l0] at h
 | k + 1 => by
  have ih0 := laws_eqIntS.mono_l k
  {
  intro y0 y1 y2
  unfold laws_eqIntS.l0
  exact qL
  }
theorem laws_eqIntS.mono : ∀ a0 a1 k, LeO (laws_eqIntS.f k a0 a1) (laws_eqIntS.f (k + 1) a0 a1) := by
 intro a0 a1 k
 have ih0 := laws_eqIntS.mono_l k
 unfold laws_eqIntS.f
 exact qL
set_option maxHeartbeats 8000000 in
set_option maxRecDepth 100000 in
theorem laws_eqIntS.calls (k : Nat) (A0 : Option Addr) (c0 : Nat) (l0 : List Int) (A1 : Option Addr) (c1 : Nat) (l1 : List Int) (r : Bool) (w : World) (hr0 : Kd.C (Kd.int .i64) w A0 l0.length l0) (hc0 : l0.length ≤ c0) (hr1 : Kd.C (Kd.int .i64) w A1 l1.length l1) (hc1 : l1.length ≤ c1) (h : laws_eqIntS.f k l0 l1 = some r) :
  Calls Try.prog 18 #[.slice A0 l0.length c0, .slice A1 l1.length c1] w fun e w' => e = .returned (.bool r) ∧ Drawn0 w w' := by
 have HR0 := aM hr0
 have HC0 := aM hc0
 clear hr0 hc0
 have HR1 := aM hr1
 have HC1 := aM hc1
 clear hr1 hc1
 have H : (if (l0.length : Int) = (l1.length : Int) then (laws_eqIntS.l0 k l0 l1 0) else (some false)) = some r := h
 clear h
 by_cases c3 : (l0.length : Int) = (l1.length : Int)
 {
 rw [if_pos c3] at H
 have c3b0 := beq_iff_eq.mpr c3
 have c3b1 := bne_eq_false_iff_eq.mpr c3
 have c3b2 : (l0.length == l1.length) = true := by first | simpa using c3 | (simp at c3 ⊢; omega)
 clear c3
 have H' := aM H
 clear H
 go_enter Try.func18, Try.ntmps18
 go_wp2
 repeat (go_quiet (fail); try go_wp2)
 go_loopg [5] k (fun kq v5 w' => ∃ (x5_1 : Int), v5 = .int .i64 x5_1 ∧ Aside0 (laws_eqIntS.l0 kq l0 l1 x5_1 = some r) ∧ Aside0 (kq ≤ k) ∧ Drawn0 w w')
 case atStart => exact ⟨(0), qz4, H', ⟨Nat.le_refl _⟩, by repeat (first | exact Drawn0.refl _ | apply Drawn0.step)⟩
 case round =>
  clear H'
  try clear c1
  try clear p2
  try clear c3
  try clear c3b0
  try clear c3b1
  try clear c3b2
  obtain ⟨x5_1, rfl, HA, HK1, ⟨m1, rfl⟩⟩ := hrel
  cases gk with
  | zero => exact absurd HA.out (by simp [laws_eqIntS.l0])
  | succ k1 =>
   have H := HA.out
   clear HA
   simp only [laws_eqIntS.l0] at H
   by_cases c4 : x5_1 < (l0.length : Int)
   {
   rw [if_pos c4] at H
   have c4b0 := decide_eq_true c4
   clear c4
   by_cases c5 : 0 ≤ x5_1
   {
   rw [if_pos c5] at H
   have c5b0 := decide_eq_true c5
   clear c5
   by_cases c6 : x5_1 < (l1.length : Int)
   {
   rw [if_pos c6] at H
   have c6b0 := decide_eq_true c6
   clear c6
   by_cases c7 : (rd l0 x5_1) = (rd l1 x5_1)
   {
   rw [if_pos c7] at H
   have c7b0 := beq_iff_eq.mpr c7
   have c7b1 := bne_eq_false_iff_eq.mpr c7
   clear c7
   have H' := aM H
   clear H
   have p114 : 0 ≤ (x5_1 : Int) := dt_
   have q114 : x5_1 < (l0.length : Int) := dt_
   obtain ⟨ad114, e114, hx114_0⟩ := Kd.at_int HR0.out x5_1 p114 q114
   cases e114
   replace p114 := eq_true p114
   replace q114 := eq_true q114
   have p115 : 0 ≤ (x5_1 : Int) := dt_
   have q115 : x5_1 < (l1.length : Int) := dt_
   obtain ⟨ad115, e115, hx115_0⟩ := Kd.at_int HR1.out x5_1 p115 q115
   cases e115
   replace p115 := eq_true p115
   replace q115 := eq_true q115
   go_wp2
   repeat (go_quiet (fail); try go_wp2)
   go_roundg k1
   case measure => have := HK1.out; omega
   case rel => exact ⟨(wrap64 (x5_1 + 1)), qz4, H', ⟨by have := HK1.out; omega⟩, by repeat (first | exact Drawn0.refl _ | apply Drawn0.step)⟩
   }
   {
   rw [if_neg c7] at H
   have c7b0 := beq_eq_false_iff_ne.mpr c7
   have c7b1 := bne_iff_ne.mpr c7
   obtain rfl := Option.some.inj H
   simp only [Option.some.injEq, Prod.mk.injEq] at H
   obtain ⟨rfl⟩ := H
   have p114 : 0 ≤ (x5_1 : Int) := dt_
   have q114 : x5_1 < (l0.length : Int) := dt_
   obtain ⟨ad114, e114, hx114_0⟩ := Kd.at_int HR0.out x5_1 p114 q114
   cases e114
   replace p114 := eq_true p114
   replace q114 := eq_true q114
   have p115 : 0 ≤ (x5_1 : Int) := dt_
   have q115 : x5_1 < (l1.length : Int) := dt_
   obtain ⟨ad115, e115, hx115_0⟩ := Kd.at_int HR1.out x5_1 p115 q115
   cases e115
   replace p115 := eq_true p115
   replace q115 := eq_true q115
   go_wp2
   repeat (go_quiet (fail); try go_wp2)
   go_ret
   exact ⟨by first | rfl | (simp; done) | (simp [*]; done), by repeat (first | exact Drawn0.refl _ | apply Drawn0.step)⟩
   }
   }
   {
   exact an_ c6 H
   }
   }
   {
   exact an_ c5 H
   }
   }
   {
   rw [if_neg c4] at H
   have c4b0 := decide_eq_false c4
   clear c4
   obtain rfl := Option.some.inj H
   simp only [Option.some.injEq, Prod.mk.injEq] at H
   obtain ⟨rfl⟩ := H
   go_wp2
   repeat (go_quiet (fail); try go_wp2)
   go_ret
   exact ⟨by first | rfl | (simp; done) | (simp [*]; done), by repeat (first | exact Drawn0.refl _ | apply Drawn0.step)⟩
   }
 }
 {
 rw [if_neg c3] at H
 have c3b0 := beq_eq_false_iff_ne.mpr c3
 have c3b1 := bne_iff_ne.mpr c3
 have c3b2 : (l0.length == l1.length) = false := by first | simpa using c3 | (simp at c3 ⊢; omega)
 obtain rfl := Option.some.inj H
 simp only [Option.some.injEq, Prod.mk.injEq] at H
 obtain ⟨rfl⟩ := H
 go_enter Try.func18, Try.ntmps18
 go_wp2
 repeat (go_quiet (fail); try go_wp2)
 go_ret
 exact ⟨by first | rfl | (simp; done) | (simp [*]; done), by repeat (first | exact Drawn0.refl _ | apply Drawn0.step)⟩

 }
/-! ### laws_eqRobot: function 56 -/
def laws_eqRobot.f (a0_0 : Int) (a0_1 : Int) (a0_2 : Int) (a0_3 : Bool) (a0_4 : Int) (a1_0 : Int) (a1_1 : Int) (a1_2 : Int) (a1_3 : Bool) (a1_4 : Int) : Option (Bool) := if a0_0 = a1_0 then (if a0_1 = a1_1 then (if a0_2 = a1_2 then (if (a0_3 != a1_3) = true then (some false) else (if a0_4 = a1_4 then (some true) else (some false))) else (some false)) else (some false)) else (some false)
set_option maxHeartbeats 8000000 in
set_option maxRecDepth 100000 in
theorem laws_eqRobot.calls (a0_0 : Int) (a0_1 : Int) (a0_2 : Int) (a0_3 : Bool) (a0_4 : Int) (a1_0 : Int) (a1_1 : Int) (a1_2 : Int) (a1_3 : Bool) (a1_4 : Int) (r : Bool) (w : World) (h : laws_eqRobot.f a0_0 a0_1 a0_2 a0_3 a0_4 a1_0 a1_1 a1_2 a1_3 a1_4 = some r) :
  Calls Try.prog 56 #[.agg #[.int .i64 a0_0, .int .i64 a0_1, .int .i64 a0_2, .bool a0_3, .int .i64 a0_4], .agg #[.int .i64 a1_0, .int .i64 a1_1, .int .i64 a1_2, .bool a1_3, .int .i64 a1_4]] w fun e w' => e = .returned (.bool r) ∧ Below w.heap.size w w' := by
 have hu37 := Try.underlying37
 have HB := aM (Below.refl w.heap.size w)
 have H : (if a0_0 = a1_0 then (if a0_1 = a1_1 then (if a0_2 = a1_2 then (if (a0_3 != a1_3) = true then (some false) else (if a0_4 = a1_4 then (some true) else (some false))) else (some false)) else (some false)) else (some false)) = some r := h
 clear h
 by_cases c3 : a0_0 = a1_0
 {
 rw [if_pos c3] at H
 have c3b0 := beq_iff_eq.mpr c3
 have c3b1 := bne_eq_false_iff_eq.mpr c3
 clear c3
 by_cases c4 : a0_1 = a1_1
 {
 rw [if_pos c4] at H
 have c4b0 := beq_iff_eq.mpr c4
 have c4b1 := bne_eq_false_iff_eq.mpr c4
 clear c4
 by_cases c5 : a0_2 = a1_2
 {
 rw [if_pos c5] at H
 have c5b0 := beq_iff_eq.mpr c5
 have c5b1 := bne_eq_false_iff_eq.mpr c5
 clear c5
 by_cases c6 : (a0_3 != a1_3) = true
 {
 rw [if_pos c6] at H
 have c6b0 : (a0_3 != a1_3) = true := c6
 (try (have c6b1 : decide (a0_3 = a1_3) = false := by simpa using c6))
 (try (have c6b2 : (a0_3 == a1_3) = false := by simpa using c6))
 (try (have c6b3 : ¬ (a0_3 = a1_3) := by simpa using c6))
 clear c6
 obtain rfl := Option.some.inj H
 simp only [Option.some.injEq, Prod.mk.injEq] at H
 obtain ⟨rfl⟩ := H
 go_enter Try.func56, Try.ntmps56
 go_wp2_with (first | ((with_reducible refine gate_dst (N := 2) rfl ?_); refine bx_ 2 #[.int .i64 a0_0, .int .i64 a0_1, .int .i64 a0_2, .bool a0_3, .int .i64 a0_4] 37 ?_; intro gb116 hg w7 hbox hb; have BK116 := aM (hbox); have GW116 := aM (bz_ w hg qz1); have GE116 := GW116; replace HB := bS_ hb; clear hb hbox hg) | ((with_reducible refine gate_dst (N := 3) rfl ?_); refine bx_ 3 #[.int .i64 a1_0, .int .i64 a1_1, .int .i64 a1_2, .bool a1_3, .int .i64 a1_4] 37 ?_; intro gb117 hg w8 hbox hb; have BK117 := aM (hbox); have GW117 := aM (bz_ w hg qz1); have GE117 := GW117; replace HB := bS_ hb; obtain ⟨NB116_117, NB117_116⟩ := nb_ hg (bk_ BK116.out); replace BK116 := bB_ BK116 hb; clear hb hbox hg; have hnb9 := NB116_117.out; have hnc9 := NB117_116.out; have hcz10_0 := bc0_ BK116.out; have hcz10_1 := bc1_ BK116.out; have hcz10_2 := bc2_ BK116.out; have hcz10_3 := bc3_ BK116.out; have hcz10_4 := bc4_ BK116.out; have hfz10_0 := blk_frozen BK116.out 0; have hfz10_1 := blk_frozen BK116.out 1; have hfz10_2 := blk_frozen BK116.out 2; have hfz10_3 := blk_frozen BK116.out 3; have hfz10_4 := blk_frozen BK116.out 4; have hcz11_0 := bc0_ BK117.out; have hcz11_1 := bc1_ BK117.out; have hcz11_2 := bc2_ BK117.out; have hcz11_3 := bc3_ BK117.out; have hcz11_4 := bc4_ BK117.out; have hfz11_0 := blk_frozen BK117.out 0; have hfz11_1 := blk_frozen BK117.out 1; have hfz11_2 := blk_frozen BK117.out 2; have hfz11_3 := blk_frozen BK117.out 3; have hfz11_4 := blk_frozen BK117.out 4))
 go_ret
 exact ⟨qzw, qz1⟩
 }
 {
 rw [if_neg c6] at H
 have c6b0 : (a0_3 != a1_3) = false := by simpa using c6
 (try (have c6b1 : decide (a0_3 = a1_3) = true := by simpa using c6))
 (try (have c6b2 : (a0_3 == a1_3) = true := by simpa using c6))
 clear c6
 by_cases c12 : a0_4 = a1_4
 {
 rw [if_pos c12] at H
 have c12b0 := beq_iff_eq.mpr c12
 have c12b1 := bne_eq_false_iff_eq.mpr c12
 clear c12
 obtain rfl := Option.some.inj H
 simp only [Option.some.injEq, Prod.mk.injEq] at H
 obtain ⟨rfl⟩ := H
 go_enter Try.func56, Try.ntmps56
 go_wp2_with (first | ((with_reducible refine gate_dst (N := 2) rfl ?_); refine bx_ 2 #[.int .i64 a0_0, .int .i64 a0_1, .int .i64 a0_2, .bool a0_3, .int .i64 a0_4] 37 ?_; intro gb116 hg w13 hbox hb; have BK116 := aM (hbox); have GW116 := aM (bz_ w hg qz1); have GE116 := GW116; replace HB := bS_ hb; clear hb hbox hg) | ((with_reducible refine gate_dst (N := 3) rfl ?_); refine bx_ 3 #[.int .i64 a1_0, .int .i64 a1_1, .int .i64 a1_2, .bool a1_3, .int .i64 a1_4] 37 ?_; intro gb117 hg w14 hbox hb; have BK117 := aM (hbox); have GW117 := aM (bz_ w hg qz1); have GE117 := GW117; replace HB := bS_ hb; obtain ⟨NB116_117, NB117_116⟩ := nb_ hg (bk_ BK116.out); replace BK116 := bB_ BK116 hb; clear hb hbox hg; have hnb15 := NB116_117.out; have hnc15 := NB117_116.out; have hcz16_0 := bc0_ BK116.out; have hcz16_1 := bc1_ BK116.out; have hcz16_2 := bc2_ BK116.out; have hcz16_3 := bc3_ BK116.out; have hcz16_4 := bc4_ BK116.out; have hfz16_0 := blk_frozen BK116.out 0; have hfz16_1 := blk_frozen BK116.out 1; have hfz16_2 := blk_frozen BK116.out 2; have hfz16_3 := blk_frozen BK116.out 3; have hfz16_4 := blk_frozen BK116.out 4; have hcz17_0 := bc0_ BK117.out; have hcz17_1 := bc1_ BK117.out; have hcz17_2 := bc2_ BK117.out; have hcz17_3 := bc3_ BK117.out; have hcz17_4 := bc4_ BK117.out; have hfz17_0 := blk_frozen BK117.out 0; have hfz17_1 := blk_frozen BK117.out 1; have hfz17_2 := blk_frozen BK117.out 2; have hfz17_3 := blk_frozen BK117.out 3; have hfz17_4 := blk_frozen BK117.out 4))
 go_ret
 exact ⟨qzw, qz1⟩
 }
 {
 rw [if_neg c12] at H
 have c12b0 := beq_eq_false_iff_ne.mpr c12
 have c12b1 := bne_iff_ne.mpr c12
 obtain rfl := Option.some.inj H
 simp only [Option.some.injEq, Prod.mk.injEq] at H
 obtain ⟨rfl⟩ := H
 go_enter Try.func56, Try.ntmps56
 go_wp2_with (first | ((with_reducible refine gate_dst (N := 2) rfl ?_); refine bx_ 2 #[.int .i64 a0_0, .int .i64 a0_1, .int .i64 a0_2, .bool a0_3, .int .i64 a0_4] 37 ?_; intro gb116 hg w18 hbox hb; have BK116 := aM (hbox); have GW116 := aM (bz_ w hg qz1); have GE116 := GW116; replace HB := bS_ hb; clear hb hbox hg) | ((with_reducible refine gate_dst (N := 3) rfl ?_); refine bx_ 3 #[.int .i64 a1_0, .int .i64 a1_1, .int .i64 a1_2, .bool a1_3, .int .i64 a1_4] 37 ?_; intro gb117 hg w19 hbox hb; have BK117 := aM (hbox); have GW117 := aM (bz_ w hg qz1); have GE117 := GW117; replace HB := bS_ hb; obtain ⟨NB116_117, NB117_116⟩ := nb_ hg (bk_ BK116.out); replace BK116 := bB_ BK116 hb; clear hb hbox hg; have hnb20 := NB116_117.out; have hnc20 := NB117_116.out; have hcz21_0 := bc0_ BK116.out; have hcz21_1 := bc1_ BK116.out; have hcz21_2 := bc2_ BK116.out; have hcz21_3 := bc3_ BK116.out; have hcz21_4 := bc4_ BK116.out; have hfz21_0 := blk_frozen BK116.out 0; have hfz21_1 := blk_frozen BK116.out 1; have hfz21_2 := blk_frozen BK116.out 2; have hfz21_3 := blk_frozen BK116.out 3; have hfz21_4 := blk_frozen BK116.out 4; have hcz22_0 := bc0_ BK117.out; have hcz22_1 := bc1_ BK117.out; have hcz22_2 := bc2_ BK117.out; have hcz22_3 := bc3_ BK117.out; have hcz22_4 := bc4_ BK117.out; have hfz22_0 := blk_frozen BK117.out 0; have hfz22_1 := blk_frozen BK117.out 1; have hfz22_2 := blk_frozen BK117.out 2; have hfz22_3 := blk_frozen BK117.out 3; have hfz22_4 := blk_frozen BK117.out 4))
 go_ret
 exact ⟨qzw, qz1⟩
 }
 }
 }
 {
 rw [if_neg c5] at H
 have c5b0 := beq_eq_false_iff_ne.mpr c5
 have c5b1 := bne_iff_ne.mpr c5
 obtain rfl := Option.some.inj H
 simp only [Option.some.injEq, Prod.mk.injEq] at H
 obtain ⟨rfl⟩ := H
 go_enter Try.func56, Try.ntmps56
 go_wp2_with (first | ((with_reducible refine gate_dst (N := 2) rfl ?_); refine bx_ 2 #[.int .i64 a0_0, .int .i64 a0_1, .int .i64 a0_2, .bool a0_3, .int .i64 a0_4] 37 ?_; intro gb116 hg w23 hbox hb; have BK116 := aM (hbox); have GW116 := aM (bz_ w hg qz1); have GE116 := GW116; replace HB := bS_ hb; clear hb hbox hg) | ((with_reducible refine gate_dst (N := 3) rfl ?_); refine bx_ 3 #[.int .i64 a1_0, .int .i64 a1_1, .int .i64 a1_2, .bool a1_3, .int .i64 a1_4] 37 ?_; intro gb117 hg w24 hbox hb; have BK117 := aM (hbox); have GW117 := aM (bz_ w hg qz1); have GE117 := GW117; replace HB := bS_ hb; obtain ⟨NB116_117, NB117_116⟩ := nb_ hg (bk_ BK116.out); replace BK116 := bB_ BK116 hb; clear hb hbox hg; have hnb25 := NB116_117.out; have hnc25 := NB117_116.out; have hcz26_0 := bc0_ BK116.out; have hcz26_1 := bc1_ BK116.out; have hcz26_2 := bc2_ BK116.out; have hcz26_3 := bc3_ BK116.out; have hcz26_4 := bc4_ BK116.out; have hfz26_0 := blk_frozen BK116.out 0; have hfz26_1 := blk_frozen BK116.out 1; have hfz26_2 := blk_frozen BK116.out 2; have hfz26_3 := blk_frozen BK116.out 3; have hfz26_4 := blk_frozen BK116.out 4; have hcz27_0 := bc0_ BK117.out; have hcz27_1 := bc1_ BK117.out; have hcz27_2 := bc2_ BK117.out; have hcz27_3 := bc3_ BK117.out; have hcz27_4 := bc4_ BK117.out; have hfz27_0 := blk_frozen BK117.out 0; have hfz27_1 := blk_frozen BK117.out 1; have hfz27_2 := blk_frozen BK117.out 2; have hfz27_3 := blk_frozen BK117.out 3; have hfz27_4 := blk_frozen BK117.out 4))
 go_ret
 exact ⟨qzw, qz1⟩
 }
 }
 {
 rw [if_neg c4] at H
 have c4b0 := beq_eq_false_iff_ne.mpr c4
 have c4b1 := bne_iff_ne.mpr c4
 obtain rfl := Option.some.inj H
 simp only [Option.some.injEq, Prod.mk.injEq] at H
 obtain ⟨rfl⟩ := H
 go_enter Try.func56, Try.ntmps56
 go_wp2_with (first | ((with_reducible refine gate_dst (N := 2) rfl ?_); refine bx_ 2 #[.int .i64 a0_0, .int .i64 a0_1, .int .i64 a0_2, .bool a0_3, .int .i64 a0_4] 37 ?_; intro gb116 hg w28 hbox hb; have BK116 := aM (hbox); have GW116 := aM (bz_ w hg qz1); have GE116 := GW116; replace HB := bS_ hb; clear hb hbox hg) | ((with_reducible refine gate_dst (N := 3) rfl ?_); refine bx_ 3 #[.int .i64 a1_0, .int .i64 a1_1, .int .i64 a1_2, .bool a1_3, .int .i64 a1_4] 37 ?_; intro gb117 hg w29 hbox hb; have BK117 := aM (hbox); have GW117 := aM (bz_ w hg qz1); have GE117 := GW117; replace HB := bS_ hb; obtain ⟨NB116_117, NB117_116⟩ := nb_ hg (bk_ BK116.out); replace BK116 := bB_ BK116 hb; clear hb hbox hg; have hnb30 := NB116_117.out; have hnc30 := NB117_116.out; have hcz31_0 := bc0_ BK116.out; have hcz31_1 := bc1_ BK116.out; have hcz31_2 := bc2_ BK116.out; have hcz31_3 := bc3_ BK116.out; have hcz31_4 := bc4_ BK116.out; have hfz31_0 := blk_frozen BK116.out 0; have hfz31_1 := blk_frozen BK116.out 1; have hfz31_2 := blk_frozen BK116.out 2; have hfz31_3 := blk_frozen BK116.out 3; have hfz31_4 := blk_frozen BK116.out 4; have hcz32_0 := bc0_ BK117.out; have hcz32_1 := bc1_ BK117.out; have hcz32_2 := bc2_ BK117.out; have hcz32_3 := bc3_ BK117.out; have hcz32_4 := bc4_ BK117.out; have hfz32_0 := blk_frozen BK117.out 0; have hfz32_1 := blk_frozen BK117.out 1; have hfz32_2 := blk_frozen BK117.out 2; have hfz32_3 := blk_frozen BK117.out 3; have hfz32_4 := blk_frozen BK117.out 4))
 go_ret
 exact ⟨qzw, qz1⟩
 }
 }
 {
 rw [if_neg c3] at H
 have c3b0 := beq_eq_false_iff_ne.mpr c3
 have c3b1 := bne_iff_ne.mpr c3
 obtain rfl := Option.some.inj H
 simp only [Option.some.injEq, Prod.mk.injEq] at H
 obtain ⟨rfl⟩ := H
 go_enter Try.func56, Try.ntmps56
 go_wp2_with (first | ((with_reducible refine gate_dst (N := 2) rfl ?_); refine bx_ 2 #[.int .i64 a0_0, .int .i64 a0_1, .int .i64 a0_2, .bool a0_3, .int .i64 a0_4] 37 ?_; intro gb116 hg w33 hbox hb; have BK116 := aM (hbox); have GW116 := aM (bz_ w hg qz1); have GE116 := GW116; replace HB := bS_ hb; clear hb hbox hg) | ((with_reducible refine gate_dst (N := 3) rfl ?_); refine bx_ 3 #[.int .i64 a1_0, .int .i64 a1_1, .int .i64 a1_2, .bool a1_3, .int .i64 a1_4] 37 ?_; intro gb117 hg w34 hbox hb; have BK117 := aM (hbox); have GW117 := aM (bz_ w hg qz1); have GE117 := GW117; replace HB := bS_ hb; obtain ⟨NB116_117, NB117_116⟩ := nb_ hg (bk_ BK116.out); replace BK116 := bB_ BK116 hb; clear hb hbox hg; have hnb35 := NB116_117.out; have hnc35 := NB117_116.out; have hcz36_0 := bc0_ BK116.out; have hcz36_1 := bc1_ BK116.out; have hcz36_2 := bc2_ BK116.out; have hcz36_3 := bc3_ BK116.out; have hcz36_4 := bc4_ BK116.out; have hfz36_0 := blk_frozen BK116.out 0; have hfz36_1 := blk_frozen BK116.out 1; have hfz36_2 := blk_frozen BK116.out 2; have hfz36_3 := blk_frozen BK116.out 3; have hfz36_4 := blk_frozen BK116.out 4; have hcz37_0 := bc0_ BK117.out; have hcz37_1 := bc1_ BK117.out; have hcz37_2 := bc2_ BK117.out; have hcz37_3 := bc3_ BK117.out; have hcz37_4 := bc4_ BK117.out; have hfz37_0 := blk_frozen BK117.out 0; have hfz37_1 := blk_frozen BK117.out 1; have hfz37_2 := blk_frozen BK117.out 2; have hfz37_3 := blk_frozen BK117.out 3; have hfz37_4 := blk_frozen BK117.out 4))
 go_ret
 exact ⟨qzw, qz1⟩

 }
/-! ### laws_eqRobotS: function 19 -/
def laws_eqRobotS.l0 : Nat → List (S37) → List (S37) → Int → Option (Bool)
 | 0, _, _, _ => none
 | k + 1, x0, x1, x5 => if x5 < (x0.length : Int) then (if 0 ≤ x5 then (if x5 < (x1.length : Int) then ((laws_eqRobot.f ((rd_T37 x0 x5).f0) ((rd_T37 x0 x5).f1) ((rd_T37 x0 x5).f2) ((rd_T37 x0 x5).f3) ((rd_T37 x0 x5).f4) ((rd_T37 x1 x5).f0) ((rd_T37 x1 x5).f1) ((rd_T37 x1 x5).f2) ((rd_T37 x1 x5).f3) ((rd_T37 x1 x5).f4)).bind fun t120 => (if t120 = true then (laws_eqRobotS.l0 k x0 x1 (wrap64 (x5 + 1))) else (some false))) else (none)) else (none)) else (some true)
def laws_eqRobotS.f (k : Nat) (l0 : List (S37)) (l1 : List (S37)) : Option (Bool) := if (l0.length : Int) = (l1.length : Int) then (laws_eqRobotS.l0 k l0 l1 0) else (some false)
theorem laws_eqRobotS.mono_l : ∀ k, (∀ y0 y1 y2, LeO (laws_eqRobotS.l0 k y0 y1 y2) (laws_eqRobotS.l0 (k + 1) y0 y1 y2))
 | 0 => fun _ _ _ r h => by simp [laws_eqRobotS.l0] at h
 | k + 1 => by
  have ih0 := laws_eqRobotS.mono_l k
  {
  intro y0 y1 y2
  unfold laws_eqRobotS.l0
  exact qL
  }
theorem laws_eqRobotS.mono : ∀ a0 a1 k, LeO (laws_eqRobotS.f k a0 a1) (laws_eqRobotS.f (k + 1) a0 a1) := by
 intro a0 a1 k
 have ih0 := laws_eqRobotS.mono_l k
 unfold laws_eqRobotS.f
 exact qL
def laws_eqRobotS.T6 : Bool × List (List Nat × List Nat) := (true, [([], []), ([], []), ([0, 1], [0, 1]), ([2], [2]), ([], []), ([], []), ([4, 5], [4, 5]), ([6], [6]), ([3, 7], [3, 7]), ([8], [8])])
def laws_eqRobotS.B6 : List Nat := [0, 0, 3, 7, 0, 0, 48, 112, 255, 511]
theorem laws_eqRobotS.tab6 : rtab .any (opsOf Try.f19 6) = laws_eqRobotS.T6 := by kernel_rfl
theorem laws_eqRobotS.bits6 : waitsOk laws_eqRobotS.T6.2 laws_eqRobotS.B6 = true := by kernel_rfl
set_option maxHeartbeats 8000000 in
set_option maxRecDepth 100000 in
theorem laws_eqRobotS.calls (k : Nat) (A0 : Option Addr) (c0 : Nat) (l0 : List (S37)) (A1 : Option Addr) (c1 : Nat) (l1 : List (S37)) (r : Bool) (w : World) (hr0 : Kd.C k37 w A0 l0.length l0) (hc0 : l0.length ≤ c0) (hr1 : Kd.C k37 w A1 l1.length l1) (hc1 : l1.length ≤ c1) (h : laws_eqRobotS.f k l0 l1 = some r) :
  Calls Try.prog 19 #[.slice A0 l0.length c0, .slice A1 l1.length c1] w fun e w' => e = .returned (.bool r) ∧ Below w.heap.size w w' := by
 have hu37 := Try.underlying37
 have HR0 := aM hr0
 have HC0 := aM hc0
 clear hr0 hc0
 have HR1 := aM hr1
 have HC1 := aM hc1
 clear hr1 hc1
 have HB := aM (Below.refl w.heap.size w)
 have H : (if (l0.length : Int) = (l1.length : Int) then (laws_eqRobotS.l0 k l0 l1 0) else (some false)) = some r := h
 clear h
 by_cases c3 : (l0.length : Int) = (l1.length : Int)
 {
 rw [if_pos c3] at H
 have c3b0 := beq_iff_eq.mpr c3
 have c3b1 := bne_eq_false_iff_eq.mpr c3
 have c3b2 : (l0.length == l1.length) = true := by first | simpa using c3 | (simp at c3 ⊢; omega)
 clear c3
 have H' := aM H
 clear H
 go_enter Try.func19, Try.ntmps19
 go_wp2
 go_loopg [5] k (fun kq v5 w' => ∃ (x5_1 : Int), v5 = .int .i64 x5_1 ∧ Aside0 (laws_eqRobotS.l0 kq l0 l1 x5_1 = some r) ∧ Aside0 (kq ≤ k) ∧ Aside0 (Below w.heap.size w w'))
 case atStart => exact ⟨(0), qz4, H', ⟨Nat.le_refl _⟩, ⟨qz1⟩⟩
 case round =>
  clear H'
  try clear c1
  try clear p2
  try clear c3
  try clear c3b0
  try clear c3b1
  try clear c3b2
  obtain ⟨x5_1, rfl, HA, HK1, HB⟩ := hrel
  cases gk with
  | zero => exact absurd HA.out (by simp [laws_eqRobotS.l0])
  | succ k1 =>
   have H := HA.out
   clear HA
   simp only [laws_eqRobotS.l0] at H
   by_cases c4 : x5_1 < (l0.length : Int)
   {
   rw [if_pos c4] at H
   have c4b0 := decide_eq_true c4
   clear c4
   by_cases c5 : 0 ≤ x5_1
   {
   rw [if_pos c5] at H
   have c5b0 := decide_eq_true c5
   clear c5
   by_cases c6 : x5_1 < (l1.length : Int)
   {
   rw [if_pos c6] at H
   have c6b0 := decide_eq_true c6
   clear c6
   replace H := Option.bind_eq_some_iff.mp H
   obtain ⟨t120, A70, H⟩ := H
   replace H : (if t120 = true then (laws_eqRobotS.l0 k1 l0 l1 (wrap64 (x5_1 + 1))) else (some false)) = some r := H
   have A7 := aM A70
   clear A70
   by_cases c8 : t120 = true
   {
   subst c8
   rw [if_pos rfl] at H
   have H' := aM H
   clear H
   try go_wp2
   replace HB := aM (below_drew1 HB.out)
   have p118 : 0 ≤ (x5_1 : Int) := dt_
   have q118 : x5_1 < (l0.length : Int) := dt_
   obtain ⟨ad118, e118, hx118_0, hx118_1, hx118_2, hx118_3, hx118_4⟩ := at_T37 HR0.out x5_1 p118 q118
   have hw118_4 := hx118_4
   have hw118_3 := hx118_3
   have hw118_2 := hx118_2
   have hw118_1 := hx118_1
   have hw118_0 := hx118_0
   cases e118
   replace hx118_0 := cB_ hx118_0
   replace hx118_1 := cB_ hx118_1
   replace hx118_2 := cB_ hx118_2
   replace hx118_3 := cB_ hx118_3
   replace hx118_4 := cB_ hx118_4
   replace p118 := eq_true p118
   replace q118 := eq_true q118
   have p119 : 0 ≤ (x5_1 : Int) := dt_
   have q119 : x5_1 < (l1.length : Int) := dt_
   obtain ⟨ad119, e119, hx119_0, hx119_1, hx119_2, hx119_3, hx119_4⟩ := at_T37 HR1.out x5_1 p119 q119
   have hw119_4 := hx119_4
   have hw119_3 := hx119_3
   have hw119_2 := hx119_2
   have hw119_1 := hx119_1
   have hw119_0 := hx119_0
   cases e119
   replace hx119_0 := cB_ hx119_0
   replace hx119_1 := cB_ hx119_1
   replace hx119_2 := cB_ hx119_2
   replace hx119_3 := cB_ hx119_3
   replace hx119_4 := cB_ hx119_4
   replace p119 := eq_true p119
   replace q119 := eq_true q119
   refine start_ (n := 10) (S := fun w' => w'.cell? (ad118.add ((x5_1).toNat * 5)) = some (.int .i64 ((rd_T37 l0 x5_1).f0)) ∧ w'.cell? ⟨(ad118.add ((x5_1).toNat * 5)).block, (ad118.add ((x5_1).toNat * 5)).off + 1, none⟩ = some (.int .i64 ((rd_T37 l0 x5_1).f1)) ∧ w'.cell? ⟨(ad118.add ((x5_1).toNat * 5)).block, (ad118.add ((x5_1).toNat * 5)).off + 2, none⟩ = some (.int .i64 ((rd_T37 l0 x5_1).f2)) ∧ w'.cell? ⟨(ad118.add ((x5_1).toNat * 5)).block, (ad118.add ((x5_1).toNat * 5)).off + 3, none⟩ = some (.bool ((rd_T37 l0 x5_1).f3)) ∧ w'.cell? ⟨(ad118.add ((x5_1).toNat * 5)).block, (ad118.add ((x5_1).toNat * 5)).off + 4, none⟩ = some (.int .i64 ((rd_T37 l0 x5_1).f4)) ∧ w'.cell? (ad119.add ((x5_1).toNat * 5)) = some (.int .i64 ((rd_T37 l1 x5_1).f0)) ∧ w'.cell? ⟨(ad119.add ((x5_1).toNat * 5)).block, (ad119.add ((x5_1).toNat * 5)).off + 1, none⟩ = some (.int .i64 ((rd_T37 l1 x5_1).f1)) ∧ w'.cell? ⟨(ad119.add ((x5_1).toNat * 5)).block, (ad119.add ((x5_1).toNat * 5)).off + 2, none⟩ = some (.int .i64 ((rd_T37 l1 x5_1).f2)) ∧ w'.cell? ⟨(ad119.add ((x5_1).toNat * 5)).block, (ad119.add ((x5_1).toNat * 5)).off + 3, none⟩ = some (.bool ((rd_T37 l1 x5_1).f3)) ∧ w'.cell? ⟨(ad119.add ((x5_1).toNat * 5)).block, (ad119.add ((x5_1).toNat * 5)).off + 4, none⟩ = some (.int .i64 ((rd_T37 l1 x5_1).f4))) (ds := []) #[false, false, false, false, false, false, false, false, false, false] (by kernel_rfl) rfl rfl ⟨(cB_ hw118_0), (cB_ hw118_1), (cB_ hw118_2), (cB_ hw118_3), (cB_ hw118_4), (cB_ hw119_0), (cB_ hw119_1), (cB_ hw119_2), (cB_ hw119_3), (cB_ hw119_4)⟩ (fun hHeld => ?_); refine with_tabW laws_eqRobotS.tab6 laws_eqRobotS.bits6 (fun HT_ HW_ => ?_)
   generalize wr.drew = w9 at HB hx118_0 hx118_1 hx118_2 hx118_3 hx118_4 hx119_0 hx119_1 hx119_2 hx119_3 hx119_4 hHeld ⊢
   refine pI_ 0 17 (bqz 10 1) ?_
   refine jI_ 1 18 ?_
   refine jI_ 2 19 ?_
   refine jI_ 4 21 ?_
   refine jI_ 5 22 ?_
   refine jI_ 6 23 ?_
   refine sI10_ 3 20 ?_
   refine sI10_ 7 24 ?_
   refine one_ (i := 8) (N := some 25) (bqz 10 511) rfl rfl qzc (by decide) (fun K hK => ?_)
   refine goes_ Try.func56 (by kernel_rfl) rfl #[.agg #[.int .i64 ((rd_T37 l0 x5_1).f0), .int .i64 ((rd_T37 l0 x5_1).f1), .int .i64 ((rd_T37 l0 x5_1).f2), .bool ((rd_T37 l0 x5_1).f3), .int .i64 ((rd_T37 l0 x5_1).f4)], .agg #[.int .i64 ((rd_T37 l1 x5_1).f0), .int .i64 ((rd_T37 l1 x5_1).f1), .int .i64 ((rd_T37 l1 x5_1).f2), .bool ((rd_T37 l1 x5_1).f3), .int .i64 ((rd_T37 l1 x5_1).f4)]] (by rfl) rfl rfl qz2 ?_
   with_reducible refine (laws_eqRobot.calls ((rd_T37 l0 x5_1).f0) ((rd_T37 l0 x5_1).f1) ((rd_T37 l0 x5_1).f2) ((rd_T37 l0 x5_1).f3) ((rd_T37 l0 x5_1).f4) ((rd_T37 l1 x5_1).f0) ((rd_T37 l1 x5_1).f1) ((rd_T37 l1 x5_1).f2) ((rd_T37 l1 x5_1).f3) ((rd_T37 l1 x5_1).f4) true _ A7.out).mono ?_
   rintro e w10 ⟨rfl, hb⟩
   refine ⟨_, rfl, ?_⟩
   replace HB := bS_ hb
   (try clear hb)
   (try clear hb2)
   (try clear hk)
   (try clear hi)
   refine hK.out _ _ ⟨(cB_ hw118_0), (cB_ hw118_1), (cB_ hw118_2), (cB_ hw118_3), (cB_ hw118_4), (cB_ hw119_0), (cB_ hw119_1), (cB_ hw119_2), (cB_ hw119_3), (cB_ hw119_4)⟩ (fun hHeld => ?_)
   clear hK K
   refine nm_ 25 ?_
   refine jI_ 9 26 ?_
   refine done_ (done_of HT_.out (by kernel_rfl)) ?_
   try go_wp2
   go_roundg k1
   case measure => have := HK1.out; omega
   case rel => exact ⟨(wrap64 (x5_1 + 1)), qz4, H', ⟨by have := HK1.out; omega⟩, ⟨qz1⟩⟩
   }
   {
   replace c8 := Bool.eq_false_iff.mpr c8
   subst c8
   rw [if_neg (show ¬ (false = true) by decide)] at H
   obtain rfl := Option.some.inj H
   simp only [Option.some.injEq, Prod.mk.injEq] at H
   obtain ⟨rfl⟩ := H
   try go_wp2
   replace HB := aM (below_drew1 HB.out)
   have p118 : 0 ≤ (x5_1 : Int) := dt_
   have q118 : x5_1 < (l0.length : Int) := dt_
   obtain ⟨ad118, e118, hx118_0, hx118_1, hx118_2, hx118_3, hx118_4⟩ := at_T37 HR0.out x5_1 p118 q118
   have hw118_4 := hx118_4
   have hw118_3 := hx118_3
   have hw118_2 := hx118_2
   have hw118_1 := hx118_1
   have hw118_0 := hx118_0
   cases e118
   replace hx118_0 := cB_ hx118_0
   replace hx118_1 := cB_ hx118_1
   replace hx118_2 := cB_ hx118_2
   replace hx118_3 := cB_ hx118_3
   replace hx118_4 := cB_ hx118_4
   replace p118 := eq_true p118
   replace q118 := eq_true q118
   have p119 : 0 ≤ (x5_1 : Int) := dt_
   have q119 : x5_1 < (l1.length : Int) := dt_
   obtain ⟨ad119, e119, hx119_0, hx119_1, hx119_2, hx119_3, hx119_4⟩ := at_T37 HR1.out x5_1 p119 q119
   have hw119_4 := hx119_4
   have hw119_3 := hx119_3
   have hw119_2 := hx119_2
   have hw119_1 := hx119_1
   have hw119_0 := hx119_0
   cases e119
   replace hx119_0 := cB_ hx119_0
   replace hx119_1 := cB_ hx119_1
   replace hx119_2 := cB_ hx119_2
   replace hx119_3 := cB_ hx119_3
   replace hx119_4 := cB_ hx119_4
   replace p119 := eq_true p119
   replace q119 := eq_true q119
   refine start_ (n := 10) (S := fun w' => w'.cell? (ad118.add ((x5_1).toNat * 5)) = some (.int .i64 ((rd_T37 l0 x5_1).f0)) ∧ w'.cell? ⟨(ad118.add ((x5_1).toNat * 5)).block, (ad118.add ((x5_1).toNat * 5)).off + 1, none⟩ = some (.int .i64 ((rd_T37 l0 x5_1).f1)) ∧ w'.cell? ⟨(ad118.add ((x5_1).toNat * 5)).block, (ad118.add ((x5_1).toNat * 5)).off + 2, none⟩ = some (.int .i64 ((rd_T37 l0 x5_1).f2)) ∧ w'.cell? ⟨(ad118.add ((x5_1).toNat * 5)).block, (ad118.add ((x5_1).toNat * 5)).off + 3, none⟩ = some (.bool ((rd_T37 l0 x5_1).f3)) ∧ w'.cell? ⟨(ad118.add ((x5_1).toNat * 5)).block, (ad118.add ((x5_1).toNat * 5)).off + 4, none⟩ = some (.int .i64 ((rd_T37 l0 x5_1).f4)) ∧ w'.cell? (ad119.add ((x5_1).toNat * 5)) = some (.int .i64 ((rd_T37 l1 x5_1).f0)) ∧ w'.cell? ⟨(ad119.add ((x5_1).toNat * 5)).block, (ad119.add ((x5_1).toNat * 5)).off + 1, none⟩ = some (.int .i64 ((rd_T37 l1 x5_1).f1)) ∧ w'.cell? ⟨(ad119.add ((x5_1).toNat * 5)).block, (ad119.add ((x5_1).toNat * 5)).off + 2, none⟩ = some (.int .i64 ((rd_T37 l1 x5_1).f2)) ∧ w'.cell? ⟨(ad119.add ((x5_1).toNat * 5)).block, (ad119.add ((x5_1).toNat * 5)).off + 3, none⟩ = some (.bool ((rd_T37 l1 x5_1).f3)) ∧ w'.cell? ⟨(ad119.add ((x5_1).toNat * 5)).block, (ad119.add ((x5_1).toNat * 5)).off + 4, none⟩ = some (.int .i64 ((rd_T37 l1 x5_1).f4))) (ds := []) #[false, false, false, false, false, false, false, false, false, false] (by kernel_rfl) rfl rfl ⟨(cB_ hw118_0), (cB_ hw118_1), (cB_ hw118_2), (cB_ hw118_3), (cB_ hw118_4), (cB_ hw119_0), (cB_ hw119_1), (cB_ hw119_2), (cB_ hw119_3), (cB_ hw119_4)⟩ (fun hHeld => ?_); refine with_tabW laws_eqRobotS.tab6 laws_eqRobotS.bits6 (fun HT_ HW_ => ?_)
   generalize wr.drew = w11 at HB hx118_0 hx118_1 hx118_2 hx118_3 hx118_4 hx119_0 hx119_1 hx119_2 hx119_3 hx119_4 hHeld ⊢
   refine pI_ 0 17 (bqz 10 1) ?_
   refine jI_ 1 18 ?_
   refine jI_ 2 19 ?_
   refine jI_ 4 21 ?_
   refine jI_ 5 22 ?_
   refine jI_ 6 23 ?_
   refine sI10_ 3 20 ?_
   refine sI10_ 7 24 ?_
   refine one_ (i := 8) (N := some 25) (bqz 10 511) rfl rfl qzc (by decide) (fun K hK => ?_)
   refine goes_ Try.func56 (by kernel_rfl) rfl #[.agg #[.int .i64 ((rd_T37 l0 x5_1).f0), .int .i64 ((rd_T37 l0 x5_1).f1), .int .i64 ((rd_T37 l0 x5_1).f2), .bool ((rd_T37 l0 x5_1).f3), .int .i64 ((rd_T37 l0 x5_1).f4)], .agg #[.int .i64 ((rd_T37 l1 x5_1).f0), .int .i64 ((rd_T37 l1 x5_1).f1), .int .i64 ((rd_T37 l1 x5_1).f2), .bool ((rd_T37 l1 x5_1).f3), .int .i64 ((rd_T37 l1 x5_1).f4)]] (by rfl) rfl rfl qz2 ?_
   with_reducible refine (laws_eqRobot.calls ((rd_T37 l0 x5_1).f0) ((rd_T37 l0 x5_1).f1) ((rd_T37 l0 x5_1).f2) ((rd_T37 l0 x5_1).f3) ((rd_T37 l0 x5_1).f4) ((rd_T37 l1 x5_1).f0) ((rd_T37 l1 x5_1).f1) ((rd_T37 l1 x5_1).f2) ((rd_T37 l1 x5_1).f3) ((rd_T37 l1 x5_1).f4) false _ A7.out).mono ?_
   rintro e w12 ⟨rfl, hb⟩
   refine ⟨_, rfl, ?_⟩
   replace HB := bS_ hb
   (try clear hb)
   (try clear hb2)
   (try clear hk)
   (try clear hi)
   refine hK.out _ _ ⟨(cB_ hw118_0), (cB_ hw118_1), (cB_ hw118_2), (cB_ hw118_3), (cB_ hw118_4), (cB_ hw119_0), (cB_ hw119_1), (cB_ hw119_2), (cB_ hw119_3), (cB_ hw119_4)⟩ (fun hHeld => ?_)
   clear hK K
   refine nm_ 25 ?_
   refine jI_ 9 26 ?_
   refine done_ (done_of HT_.out (by kernel_rfl)) ?_
   try go_wp2
   go_ret
   exact ⟨qzw, qz1⟩
   }
   }
   {
   exact an_ c6 H
   }
   }
   {
   exact an_ c5 H
   }
   }
   {
   rw [if_neg c4] at H
   have c4b0 := decide_eq_false c4
   clear c4
   obtain rfl := Option.some.inj H
   simp only [Option.some.injEq, Prod.mk.injEq] at H
   obtain ⟨rfl⟩ := H
   go_wp2
   go_ret
   exact ⟨qzw, qz1⟩
   }
 }
 {
 rw [if_neg c3] at H
 have c3b0 := beq_eq_false_iff_ne.mpr c3
 have c3b1 := bne_iff_ne.mpr c3
 have c3b2 : (l0.length == l1.length) = false := by first | simpa using c3 | (simp at c3 ⊢; omega)
 obtain rfl := Option.some.inj H
 simp only [Option.some.injEq, Prod.mk.injEq] at H
 obtain ⟨rfl⟩ := H
 go_enter Try.func19, Try.ntmps19
 go_wp2
 go_ret
 exact ⟨qzw, qz1⟩

 }
end Go.Proofs.Ytankmdbbgepmbaa.PFnExactStep
