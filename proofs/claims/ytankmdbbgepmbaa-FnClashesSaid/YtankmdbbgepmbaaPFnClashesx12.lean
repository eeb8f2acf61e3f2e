-- Made by a program of this session out of the translation. Lean checks it.
import Derived.Test.YtankmdbbgepmbaaPFnClashesx11
namespace Go.Proofs.Ytankmdbbgepmbaa.PFnClashes
open Go.RowKit Go.Proofs.YtankmdbbgepmbaaW.PrintWords Go.Proofs.YtankmdbbgepmbaaW.PrintLast Go.Proofs.YtankmdbbgepmbaaW.PrintMore
set_option linter.unusedVariables false
set_option linter.unusedSimpArgs false
set_option maxHeartbeats 16000000
set_option maxRecDepth 100000

/-! ### impl_Choices: function 29 -/
def farKey (far : List Int) (n c : Int) : Int := if rd far c < 0 then n + 1 else rd far c
def farLt (far : List Int) (n at_ x y : Int) : Bool := if farKey far n x = farKey far n y then (if (x == at_) = (y == at_) then decide (x < y) else (y == at_)) else decide (farKey far n x < farKey far n y)
theorem impl_ChoicesK.calls (A : Option Addr) (c : Nat) (far : List Int) (w : World) (hr : Kd.C (Kd.int .i64) w A far.length far) (b6 b2 : Nat) (A2 : Option Addr) (n c2 : Nat) (hb6 : w.cell? ⟨b6, 0, none⟩ = some (.slice A far.length c)) (hb2 : w.cell? ⟨b2, 2, none⟩ = some (.slice A2 n c2)) (hn : n ≤ 1000)
  (x : Int) (h0 : 0 ≤ x) (h1 : x < (far.length : Int)) : Calls Try.prog 70 #[.int .i64 x, .pointer (some ⟨b6, 0, none⟩), .pointer (some ⟨b2, 0, none⟩)] w fun e w' => e = .returned (.int .i64 (farKey far (n : Int) x)) ∧ w' = w := by
 have hu43 := Try.underlying43
 obtain ⟨ad, ex, x0⟩ := Kd.at_int hr x h0 h1
 subst ex
 by_cases hk : rd far x < 0
 {
 have d1 : decide (rd far x < 0) = true := decide_eq_true hk
 have R1 : farKey far (n : Int) x = (n : Int) + 1 := by unfold farKey; rw [if_pos hk]
 have HR := aM R1
 clear R1
 go_enter Try.func70, Try.ntmps70
 go_wp2
 go_ret
 exact ⟨by rw [HR.out]; rfl, rfl⟩
 }
 {
 have d1 : decide (rd far x < 0) = false := decide_eq_false hk
 have R1 : farKey far (n : Int) x = rd far x := by unfold farKey; rw [if_neg hk]
 have HR := aM R1
 clear R1
 go_enter Try.func70, Try.ntmps70
 go_wp2
 go_ret
 exact ⟨by rw [HR.out]; rfl, rfl⟩
 }
theorem impl_ChoicesL.calls (A : Option Addr) (c : Nat) (far : List Int) (w : World) (hr : Kd.C (Kd.int .i64) w A far.length far) (b6 b2 b5 b8 b3 : Nat) (A2 : Option Addr) (n c2 : Nat) (hb6 : w.cell? ⟨b6, 0, none⟩ = some (.slice A far.length c)) (hb2 : w.cell? ⟨b2, 2, none⟩ = some (.slice A2 n c2)) (hn : n ≤ 1000)
  (hb8 : w.cell? ⟨b8, 0, none⟩ = some (.func (.func 70) #[] #[.pointer (some ⟨b6, 0, none⟩), .pointer (some ⟨b2, 0, none⟩)])) (at_ : Int) (hb3 : w.cell? ⟨b3, 1, none⟩ = some (.int .i64 at_)) (g m c5 : Nat) (hb5 : w.cell? ⟨b5, 0, none⟩ = some (.slice (some ⟨g, 0, none⟩) m c5))
  (i j : Nat) (hi : i < m) (hj : j < m) (x y : Int) (hx : w.cell? ⟨g, i, none⟩ = some (.int .i64 x)) (hy : w.cell? ⟨g, j, none⟩ = some (.int .i64 y)) (hx0 : 0 ≤ x) (hx1 : x < (far.length : Int)) (hy0 : 0 ≤ y) (hy1 : y < (far.length : Int)) :
  Calls Try.prog 71 #[.int .i64 i, .int .i64 j, .pointer (some ⟨b5, 0, none⟩), .pointer (some ⟨b8, 0, none⟩), .pointer (some ⟨b3, 0, none⟩)] w fun e w' => e = .returned (.bool (farLt far n at_ x y)) ∧ Below w.heap.size w w' := by
 have hu43 := Try.underlying43
 have hu37 := Try.underlying37
 have hu82 := Try.underlying82
 have hm0 : 0 < m := by omega
 have HKX : ∀ W : World, Below w.heap.size w W → Calls Try.prog 70 #[.int .i64 x, .pointer (some ⟨b6, 0, none⟩), .pointer (some ⟨b2, 0, none⟩)] W fun e w' => e = .returned (.int .i64 (farKey far (n : Int) x)) ∧ w' = W := fun W hb =>
  impl_ChoicesK.calls A c far W (Kd.C_below hr hb) b6 b2 A2 n c2 (pw_cell_below hb hb6) (pw_cell_below hb hb2) hn x hx0 hx1
 have HKY : ∀ W : World, Below w.heap.size w W → Calls Try.prog 70 #[.int .i64 y, .pointer (some ⟨b6, 0, none⟩), .pointer (some ⟨b2, 0, none⟩)] W fun e w' => e = .returned (.int .i64 (farKey far (n : Int) y)) ∧ w' = W := fun W hb =>
  impl_ChoicesK.calls A c far W (Kd.C_below hr hb) b6 b2 A2 n c2 (pw_cell_below hb hb6) (pw_cell_below hb hb2) hn y hy0 hy1
 have KX := aM HKX
 have KY := aM HKY
 clear HKX HKY
 obtain ⟨kx, hkx⟩ : ∃ kx, farKey far (n : Int) x = kx := ⟨_, rfl⟩
 obtain ⟨ky, hky⟩ : ∃ ky, farKey far (n : Int) y = ky := ⟨_, rfl⟩
 rw [hkx] at KX
 rw [hky] at KY
 have HF : Aside0 (farLt far n at_ x y = if kx = ky then (if (x == at_) = (y == at_) then decide (x < y) else (y == at_)) else decide (kx < ky)) := ⟨by unfold farLt; rw [hkx, hky]⟩
 clear hkx hky hr
 obtain ⟨bx, hbx⟩ : ∃ bx, (x == at_) = bx := ⟨_, rfl⟩
 obtain ⟨by', hby⟩ : ∃ by', (y == at_) = by' := ⟨_, rfl⟩
 rw [hbx, hby] at HF
 rcases Decidable.em (kx = ky) with hk | hk
 {
 have d1 : (kx != ky) = false := by simpa using hk
 rw [if_pos hk] at HF
 clear hk
 cases bx <;> cases by'
 all_goals
  go_enter Try.func71, Try.ntmps71
  go_wp2
  repeat (go_quiet (first | (go_at_call 70; (with_reducible refine (KX.out _ qz29).mono ?_); rintro e w' ⟨rfl, rfl⟩; exact ⟨rfl, _, rfl⟩) | (go_at_call 70; (with_reducible refine (KY.out _ qz29).mono ?_); rintro e w' ⟨rfl, rfl⟩; exact ⟨rfl, _, rfl⟩)); try go_wp2)
  go_ret
  exact ⟨by rw [HF.out]; rfl, by repeat (first | exact Below.refl _ _ | apply pw_below_drewN)⟩
 }
 {
 have d1 : (kx != ky) = true := by simpa using hk
 rw [if_neg hk] at HF
 clear hk
 go_enter Try.func71, Try.ntmps71
 go_wp2
 repeat (go_quiet (first | (go_at_call 70; (with_reducible refine (KX.out _ qz29).mono ?_); rintro e w' ⟨rfl, rfl⟩; exact ⟨rfl, _, rfl⟩) | (go_at_call 70; (with_reducible refine (KY.out _ qz29).mono ?_); rintro e w' ⟨rfl, rfl⟩; exact ⟨rfl, _, rfl⟩)); try go_wp2)
 go_ret
 exact ⟨by rw [HF.out]; rfl, by repeat (first | exact Below.refl _ _ | apply pw_below_drewN)⟩
 }
def impl_Choices.T3 : Bool × List (List Nat × List Nat) := (true, [([], []), ([], []), ([1], [1]), ([], []), ([3], [3]), ([0, 2, 4], [0, 2, 4]), ([], []), ([6], [6]), ([7], [7]), ([5, 8, 5], [5, 8]), ([], []), ([10, 9, 9, 0, 1, 2, 3, 4, 5, 6, 7, 8, 9, 10], [9, 10])])
def impl_Choices.B3 : List Nat := [0, 0, 2, 0, 8, 31, 0, 64, 192, 511, 0, 2047]
theorem impl_Choices.tab3 : rtab .any (opsOf Try.f29 3) = impl_Choices.T3 := by kernel_rfl
theorem impl_Choices.bits3 : waitsOk impl_Choices.T3.2 impl_Choices.B3 = true := by kernel_rfl
def impl_Choices.T4 : Bool × List (List Nat × List Nat) := (true, [([], []), ([0], [0]), ([1], [1]), ([2], [2]), ([3], [3]), ([3], [3]), ([5, 3], [3, 5]), ([4, 6, 3, 3], [3, 4, 6]), ([7, 3], [3, 7]), ([3, 8], [3, 8]), ([9, 7], [9]), ([10], [10]), ([10], [10]), ([12, 10], [10, 12]), ([11, 13, 10, 10], [10, 11, 13]), ([10], [10]), ([15, 10], [10, 15]), ([14, 16, 14, 10], [10, 14, 16]), ([10, 17], [10, 17])])
def impl_Choices.B4 : List Nat := [0, 1, 3, 7, 15, 15, 47, 127, 255, 511, 1023, 2047, 2047, 6143, 16383, 2047, 34815, 131071, 262143]
theorem impl_Choices.tab4 : rtab .any (opsOf Try.f29 4) = impl_Choices.T4 := by kernel_rfl
theorem impl_Choices.bits4 : waitsOk impl_Choices.T4.2 impl_Choices.B4 = true := by kernel_rfl
def impl_Choices.o (k : Nat) (a0_0 a0_1 : Int) (l0_2 : List Int) (at_ goal : Int) (nr : List Int) : Option (List Int) :=
 if 0 ≤ goal then (impl_hasInt.f k (nr ++ [at_]) goal).bind fun h1 => if h1 = true then some (nr ++ [at_]) else (impl_beside.f k a0_0 a0_1 l0_2 at_).bind fun bs => (impl_hasInt.f k bs goal).bind fun h2 => if h2 = true then some ((nr ++ [at_]) ++ [goal]) else some (nr ++ [at_])
 else some (nr ++ [at_])
def impl_Choices.far (k : Nat) (a0_0 a0_1 : Int) (l0_2 : List Int) (at_ goal : Int) (loaded : Bool) : Option (List Int) :=
 if 0 ≤ goal then impl_field.f k a0_0 a0_1 l0_2 goal loaded else some ((List.replicate l0_2.length 1).set at_.toNat 0)
def impl_Choices.f (k : Nat) (a0_0 a0_1 : Int) (l0_2 : List Int) (a1_0 a1_1 a1_2 : Int) (a1_3 : Bool) (a1_4 : Int) : Option (List Int) :=
 (impl_FloorOk.f k a0_0 a0_1 l0_2).bind fun b1 => if b1 = true then (impl_standsOk.f k a0_0 a0_1 l0_2 a1_0 a1_1 a1_2 a1_3 a1_4).bind fun b2 => if b2 = true then
  (if 0 ≤ a1_1 then (if a1_1 < (l0_2.length : Int) then (if l0_2.length ≤ 1000 then (impl_near.f k a0_0 a0_1 l0_2 a1_1 a1_3).bind fun nr => if nr.length ≤ 15 then
   (impl_Choices.o k a0_0 a0_1 l0_2 a1_1 a1_2 nr).bind fun o => (impl_Choices.far k a0_0 a0_1 l0_2 a1_1 a1_2 a1_3).bind fun far => if (∀ x ∈ o, 0 ≤ x ∧ x < (far.length : Int)) then some (sortL (farLt far (l0_2.length : Int) a1_1) o) else none
   else none else none) else none) else none)
  else some [] else some []
theorem impl_Choices.mono : ∀ a0 a1 a2 a3 a4 a5 a6 a7 k, LeO (impl_Choices.f k a0 a1 a2 a3 a4 a5 a6 a7) (impl_Choices.f (k + 1) a0 a1 a2 a3 a4 a5 a6 a7) := by
 intro a0 a1 a2 a3 a4 a5 a6 a7 k
 unfold impl_Choices.f impl_Choices.o impl_Choices.far
 have j0 := @impl_FloorOk.mono
 have j1 := @impl_standsOk.mono
 have j2 := @impl_near.mono
 have j3 := @impl_hasInt.mono
 have j4 := @impl_beside.mono
 have j5 := @impl_field.mono
 exact qL
theorem impl_Choices.callsN (k : Nat) (a0_0 : Int) (a0_1 : Int) (A0_2 : Option Addr) (c0_2 : Nat) (l0_2 : List Int) (a1_0 : Int) (a1_1 : Int) (a1_2 : Int) (a1_3 : Bool) (a1_4 : Int) (r : List Int) (w : World) (hr0_2 : Kd.C (Kd.int .i64) w A0_2 l0_2.length l0_2) (hc0_2 : l0_2.length ≤ c0_2) (h1 : impl_FloorOk.f k a0_0 a0_1 l0_2 = some false) (hr : r = []) :
  Calls Try.prog 29 #[.agg #[.int .i64 a0_0, .int .i64 a0_1, .slice A0_2 l0_2.length c0_2], .agg #[.int .i64 a1_0, .int .i64 a1_1, .int .i64 a1_2, .bool a1_3, .int .i64 a1_4]] w fun e w' => ∃ v0_ : Value, e = .returned v0_ ∧ Kd.R (Kd.int .i64) 3 w' w.heap.size (fun _ => True) v0_ r ∧ Below w.heap.size w w' := by
 have hu43 := Try.underlying43
 have hu37 := Try.underlying37
 have hu24 := Try.underlying24
 have hu82 := Try.underlying82
 have HR := aM hr0_2
 have HC := aM hc0_2
 clear hr0_2 hc0_2
 have HB := aM (Below.refl w.heap.size w)
 subst hr
 have H1 := aM h1
 clear h1
 go_enter Try.func29, Try.ntmps29
 go_wp2_with (first
  | ((with_reducible refine gate_dst (N := 2) rfl ?_); refine box_event rfl (N := 2) rfl (cs := #[.int .i64 a0_0, .int .i64 a0_1, .slice A0_2 l0_2.length c0_2]) (t := 43) ?hr ?_; (case hr => exact qz9); intro b2 hg w1 hbx hb; have BK2 := aM hbx; have GB2 := aM (Nat.le_of_eq hg.symm : w.heap.size ≤ b2); replace HB := aM (below_step HB.out hb); have hbl := blk_lt hbx; clear hb hbx hg)
  | ((with_reducible refine gate_dst (N := 3) rfl ?_); refine box_event rfl (N := 3) rfl (cs := #[.int .i64 a1_0, .int .i64 a1_1, .int .i64 a1_2, .bool a1_3, .int .i64 a1_4]) (t := 37) ?hr ?_; (case hr => exact qz9); intro b3 hg w2 hbx hb; have BK3 := aM hbx; have NE := aM (show b2 ≠ b3 from by omega); have GB3 := aM (Nat.le_trans (below_size HB.out) (Nat.le_of_eq hg.symm) : w.heap.size ≤ b3); replace BK2 := aM (blk_below BK2.out hb); replace HB := aM (below_step HB.out hb); clear hb hbx hg hbl; have z20 := c3_0 BK2.out; have z21 := c3_1 BK2.out; have z22 := c3_2 BK2.out; have z30 := c5_0 BK3.out; have z31 := c5_1 BK3.out; have z32 := c5_2 BK3.out; have z33 := c5_3 BK3.out; have z34 := c5_4 BK3.out)
  | (go_at_call 64; (with_reducible refine (impl_FloorOk.calls k a0_0 a0_1 _ _ l0_2 false _ (Kd.C_below HR.out HB.out) HC.out H1.out).mono ?_); rintro e w' ⟨rfl, hb⟩; replace BK2 := aM (blk_below BK2.out hb); replace BK3 := aM (blk_below BK3.out hb); replace HB := aM (below_step HB.out hb); clear hb; replace z20 := c3_0 BK2.out; replace z21 := c3_1 BK2.out; replace z22 := c3_2 BK2.out; replace z30 := c5_0 BK3.out; replace z31 := c5_1 BK3.out; replace z32 := c5_2 BK3.out; replace z33 := c5_3 BK3.out; replace z34 := c5_4 BK3.out)
  )
 go_ret
 exact ⟨_, rfl, Kd.R_nil _ _ _ _ _, HB.out⟩
theorem impl_Choices.callsS (k : Nat) (a0_0 : Int) (a0_1 : Int) (A0_2 : Option Addr) (c0_2 : Nat) (l0_2 : List Int) (a1_0 : Int) (a1_1 : Int) (a1_2 : Int) (a1_3 : Bool) (a1_4 : Int) (r : List Int) (w : World) (hr0_2 : Kd.C (Kd.int .i64) w A0_2 l0_2.length l0_2) (hc0_2 : l0_2.length ≤ c0_2) (h1 : impl_FloorOk.f k a0_0 a0_1 l0_2 = some true) (h2 : impl_standsOk.f k a0_0 a0_1 l0_2 a1_0 a1_1 a1_2 a1_3 a1_4 = some false) (hr : r = []) :
  Calls Try.prog 29 #[.agg #[.int .i64 a0_0, .int .i64 a0_1, .slice A0_2 l0_2.length c0_2], .agg #[.int .i64 a1_0, .int .i64 a1_1, .int .i64 a1_2, .bool a1_3, .int .i64 a1_4]] w fun e w' => ∃ v0_ : Value, e = .returned v0_ ∧ Kd.R (Kd.int .i64) 3 w' w.heap.size (fun _ => True) v0_ r ∧ Below w.heap.size w w' := by
 have hu43 := Try.underlying43
 have hu37 := Try.underlying37
 have hu24 := Try.underlying24
 have hu82 := Try.underlying82
 have HR := aM hr0_2
 have HC := aM hc0_2
 clear hr0_2 hc0_2
 have HB := aM (Below.refl w.heap.size w)
 subst hr
 have H1 := aM h1
 clear h1
 have H2 := aM h2
 clear h2
 go_enter Try.func29, Try.ntmps29
 go_wp2_with (first
  | ((with_reducible refine gate_dst (N := 2) rfl ?_); refine box_event rfl (N := 2) rfl (cs := #[.int .i64 a0_0, .int .i64 a0_1, .slice A0_2 l0_2.length c0_2]) (t := 43) ?hr ?_; (case hr => exact qz9); intro b2 hg w1 hbx hb; have BK2 := aM hbx; have GB2 := aM (Nat.le_of_eq hg.symm : w.heap.size ≤ b2); replace HB := aM (below_step HB.out hb); have hbl := blk_lt hbx; clear hb hbx hg)
  | ((with_reducible refine gate_dst (N := 3) rfl ?_); refine box_event rfl (N := 3) rfl (cs := #[.int .i64 a1_0, .int .i64 a1_1, .int .i64 a1_2, .bool a1_3, .int .i64 a1_4]) (t := 37) ?hr ?_; (case hr => exact qz9); intro b3 hg w2 hbx hb; have BK3 := aM hbx; have NE := aM (show b2 ≠ b3 from by omega); have GB3 := aM (Nat.le_trans (below_size HB.out) (Nat.le_of_eq hg.symm) : w.heap.size ≤ b3); replace BK2 := aM (blk_below BK2.out hb); replace HB := aM (below_step HB.out hb); clear hb hbx hg hbl; have z20 := c3_0 BK2.out; have z21 := c3_1 BK2.out; have z22 := c3_2 BK2.out; have z30 := c5_0 BK3.out; have z31 := c5_1 BK3.out; have z32 := c5_2 BK3.out; have z33 := c5_3 BK3.out; have z34 := c5_4 BK3.out)
  | (go_at_call 64; (with_reducible refine (impl_FloorOk.calls k a0_0 a0_1 _ _ l0_2 true _ (Kd.C_below HR.out HB.out) HC.out H1.out).mono ?_); rintro e w' ⟨rfl, hb⟩; replace BK2 := aM (blk_below BK2.out hb); replace BK3 := aM (blk_below BK3.out hb); replace HB := aM (below_step HB.out hb); clear hb; replace z20 := c3_0 BK2.out; replace z21 := c3_1 BK2.out; replace z22 := c3_2 BK2.out; replace z30 := c5_0 BK3.out; replace z31 := c5_1 BK3.out; replace z32 := c5_2 BK3.out; replace z33 := c5_3 BK3.out; replace z34 := c5_4 BK3.out)
  | (go_at_call 65; (with_reducible refine (impl_standsOk.calls k a0_0 a0_1 _ _ l0_2 a1_0 a1_1 a1_2 a1_3 a1_4 false _ (Kd.C_below HR.out HB.out) HC.out H2.out).mono ?_); rintro e w' ⟨rfl, hb⟩; replace BK2 := aM (blk_below BK2.out hb); replace BK3 := aM (blk_below BK3.out hb); replace HB := aM (below_step HB.out hb); clear hb; replace z20 := c3_0 BK2.out; replace z21 := c3_1 BK2.out; replace z22 := c3_2 BK2.out; replace z30 := c5_0 BK3.out; replace z31 := c5_1 BK3.out; replace z32 := c5_2 BK3.out; replace z33 := c5_3 BK3.out; replace z34 := c5_4 BK3.out)
  )
 go_ret
 exact ⟨_, rfl, Kd.R_nil _ _ _ _ _, HB.out⟩
theorem impl_Choices.callsM (k : Nat) (a0_0 : Int) (a0_1 : Int) (A0_2 : Option Addr) (c0_2 : Nat) (l0_2 : List Int) (a1_0 : Int) (a1_1 : Int) (a1_2 : Int) (a1_3 : Bool) (a1_4 : Int) (r : List Int) (w : World) (hr0_2 : Kd.C (Kd.int .i64) w A0_2 l0_2.length l0_2) (hc0_2 : l0_2.length ≤ c0_2) (h1 : impl_FloorOk.f k a0_0 a0_1 l0_2 = some true) (h2 : impl_standsOk.f k a0_0 a0_1 l0_2 a1_0 a1_1 a1_2 a1_3 a1_4 = some true) (hat0 : 0 ≤ a1_1) (hat1 : a1_1 < (l0_2.length : Int)) (hlen : l0_2.length ≤ 1000) (nr : List Int) (h3 : impl_near.f k a0_0 a0_1 l0_2 a1_1 a1_3 = some nr) (hnr : nr.length ≤ 15) (o far : List Int) (h4 : impl_Choices.o k a0_0 a0_1 l0_2 a1_1 a1_2 nr = some o) (h5 : impl_Choices.far k a0_0 a0_1 l0_2 a1_1 a1_2 a1_3 = some far) (h6 : ∀ x ∈ o, 0 ≤ x ∧ x < (far.length : Int)) (hr : r = sortL (farLt far (l0_2.length : Int) a1_1) o) :
  Calls Try.prog 29 #[.agg #[.int .i64 a0_0, .int .i64 a0_1, .slice A0_2 l0_2.length c0_2], .agg #[.int .i64 a1_0, .int .i64 a1_1, .int .i64 a1_2, .bool a1_3, .int .i64 a1_4]] w fun e w' => ∃ v0_ : Value, e = .returned v0_ ∧ Kd.R (Kd.int .i64) 3 w' w.heap.size (fun _ => True) v0_ r ∧ Below w.heap.size w w' := by
 have hu43 := Try.underlying43
 have hu37 := Try.underlying37
 have hu24 := Try.underlying24
 have hu82 := Try.underlying82
 have HR := aM hr0_2
 have HC := aM hc0_2
 clear hr0_2 hc0_2
 have HB := aM (Below.refl w.heap.size w)
 have H1 := aM h1
 clear h1
 have H2 := aM h2
 clear h2
 have HAT0 := aM hat0
 clear hat0
 have HAT1 := aM hat1
 clear hat1
 have HLEN := aM hlen
 clear hlen
 have H3 := aM h3
 clear h3
 have HNR := aM hnr
 clear hnr
 have H4 := aM h4
 clear h4
 have H5 := aM h5
 clear h5
 have H6 := aM h6
 clear h6
 have HRR := aM hr
 clear hr
 obtain ⟨q, hq⟩ : ∃ q : List Int, q = nr ++ [a1_1] := ⟨_, rfl⟩
 have LQ := aM (show q.length ≤ 16 by have := HNR.out; rw [hq]; simp only [List.length_append, List.length_singleton]; omega)
 have NQ := aM hq
 clear hq
 go_enter Try.func29, Try.ntmps29
 go_upto_region 3 with (first
  | ((with_reducible refine gate_dst (N := 2) rfl ?_); refine box_event rfl (N := 2) rfl (cs := #[.int .i64 a0_0, .int .i64 a0_1, .slice A0_2 l0_2.length c0_2]) (t := 43) ?hr ?_; (case hr => exact qz9); intro b2 hg w1 hbx hb; have BK2 := aM hbx; have GB2 := aM (Nat.le_of_eq hg.symm : w.heap.size ≤ b2); replace HB := aM (below_step HB.out hb); have hbl := blk_lt hbx; clear hb hbx hg)
  | ((with_reducible refine gate_dst (N := 3) rfl ?_); refine box_event rfl (N := 3) rfl (cs := #[.int .i64 a1_0, .int .i64 a1_1, .int .i64 a1_2, .bool a1_3, .int .i64 a1_4]) (t := 37) ?hr ?_; (case hr => exact qz9); intro b3 hg w2 hbx hb; have BK3 := aM hbx; have NE := aM (show b2 ≠ b3 from by omega); have GB3 := aM (Nat.le_trans (below_size HB.out) (Nat.le_of_eq hg.symm) : w.heap.size ≤ b3); replace BK2 := aM (blk_below BK2.out hb); replace HB := aM (below_step HB.out hb); clear hb hbx hg hbl; have z20 := c3_0 BK2.out; have z21 := c3_1 BK2.out; have z22 := c3_2 BK2.out; have z30 := c5_0 BK3.out; have z31 := c5_1 BK3.out; have z32 := c5_2 BK3.out; have z33 := c5_3 BK3.out; have z34 := c5_4 BK3.out)
  | (go_at_call 64; (with_reducible refine (impl_FloorOk.calls k a0_0 a0_1 _ _ l0_2 true _ (Kd.C_below HR.out HB.out) HC.out H1.out).mono ?_); rintro e w' ⟨rfl, hb⟩; replace BK2 := aM (blk_below BK2.out hb); replace BK3 := aM (blk_below BK3.out hb); replace HB := aM (below_step HB.out hb); clear hb; replace z20 := c3_0 BK2.out; replace z21 := c3_1 BK2.out; replace z22 := c3_2 BK2.out; replace z30 := c5_0 BK3.out; replace z31 := c5_1 BK3.out; replace z32 := c5_2 BK3.out; replace z33 := c5_3 BK3.out; replace z34 := c5_4 BK3.out)
  | (go_at_call 65; (with_reducible refine (impl_standsOk.calls k a0_0 a0_1 _ _ l0_2 a1_0 a1_1 a1_2 a1_3 a1_4 true _ (Kd.C_below HR.out HB.out) HC.out H2.out).mono ?_); rintro e w' ⟨rfl, hb⟩; replace BK2 := aM (blk_below BK2.out hb); replace BK3 := aM (blk_below BK3.out hb); replace HB := aM (below_step HB.out hb); clear hb; replace z20 := c3_0 BK2.out; replace z21 := c3_1 BK2.out; replace z22 := c3_2 BK2.out; replace z30 := c5_0 BK3.out; replace z31 := c5_1 BK3.out; replace z32 := c5_2 BK3.out; replace z33 := c5_3 BK3.out; replace z34 := c5_4 BK3.out)
  )
 (try simp only [Act.put, List.setIfInBounds_toArray, List.set_cons_zero, List.set_cons_succ])
 go_cut [5] (fun v5 wc => ∃ (b5 : Nat) (Ao : Option Addr) (co : Nat), v5 = .pointer (some ⟨b5, 0, none⟩) ∧ Aside0 (wc.heap[b2]? = some (.cells #[.int .i64 a0_0, .int .i64 a0_1, .slice A0_2 l0_2.length c0_2] 43 (0, 0))) ∧ Aside0 (wc.heap[b3]? = some (.cells #[.int .i64 a1_0, .int .i64 a1_1, .int .i64 a1_2, .bool a1_3, .int .i64 a1_4] 37 (0, 0))) ∧ Aside0 (wc.heap[b5]? = some (.cells #[.slice Ao q.length co] 24 (0, 0))) ∧ Aside0 (w.heap.size ≤ b5) ∧ Aside0 (Kd.R (Kd.int .i64) 3 wc w.heap.size (fun _ => True) (.slice Ao q.length co) q) ∧ Aside0 (Below w.heap.size w wc))
 case first =>
  refine start_ (n := 12) (S := fun w' => w'.cell? ⟨b2, 0, none⟩ = some (.int .i64 a0_0) ∧ w'.cell? ⟨b2, 1, none⟩ = some (.int .i64 a0_1) ∧ w'.cell? ⟨b2, 2, none⟩ = some (.slice A0_2 l0_2.length c0_2) ∧ w'.cell? ⟨b3, 1, none⟩ = some (.int .i64 a1_1) ∧ w'.cell? ⟨b3, 3, none⟩ = some (.bool a1_3)) (ds := [11]) #[false, false, false, false, false, false, false, false, false, false, false, false] (by kernel_rfl) rfl rfl ⟨z20, z21, z22, z31, z33⟩ (fun hHeld => ?_); refine with_tabW impl_Choices.tab3 impl_Choices.bits3 (fun HT_ HW_ => ?_)
  refine pI_ 1 (bqz 12 2) ?_
  refine jI_ 3 ?_
  refine jI_ 6 ?_
  refine sI5_ 0 ?_
  refine sI5_ 2 ?_
  refine sI5_ 4 ?_
  refine sI5_ 7 ?_
  clear z20 z21 z22 z30 z31 z32 z33 z34
  replace BK2 := aM (blk_drew BK2.out)
  replace BK3 := aM (blk_drew BK3.out)
  replace HB := aM (below_drew HB.out)
  refine three_ (i := 5) (j := 8) (k := 10) (Ni := some 23) (Nj := some 26) (Nk := some 5) (bqz 12 255) (bqz 12 479) (bqz 12 1247) rfl rfl rfl rfl rfl rfl (three_of HT_.out (by kernel_rfl)) (by decide) (by decide) (by decide) (fun K hK => ?_) (fun K hK => ?_) (fun K hK => ?_)
  {
  refine goes_ Try.func66 (by kernel_rfl) rfl #[.agg #[.int .i64 a0_0, .int .i64 a0_1, .slice A0_2 l0_2.length c0_2], .int .i64 a1_1, .bool a1_3] (by rfl) rfl rfl qz30 ?_
  refine (impl_near.calls k a0_0 a0_1 _ _ l0_2 a1_1 a1_3 nr _ (Kd.C_below HR.out HB.out) HC.out H3.out).mono ?_
  rintro e wn ⟨vn, rfl, hn, hb⟩
  refine ⟨_, rfl, ?_⟩
  have HN := aM (Kd.R_lower hn (below_size HB.out))
  obtain ⟨An, cn, rfl⟩ := Kd.R_slice hn
  replace BK2 := aM (blk_below BK2.out hb); replace BK3 := aM (blk_below BK3.out hb); replace HB := aM (below_step HB.out hb)
  clear hn hb
  refine hK.out _ _ ⟨c3_0 BK2.out, c3_1 BK2.out, c3_2 BK2.out, c5_1 BK3.out, c5_3 BK3.out⟩ (fun hHeld => ?_)
  clear hK K
  refine nm_ 23 ?_
  refine two_ (i := 8) (j := 10) (Ni := some 26) (Nj := some 5) (bqz 12 511) (bqz 12 1279) rfl rfl rfl rfl (two_of HT_.out (by kernel_rfl)) (by decide) (by decide) (fun K hK => ?_) (fun K hK => ?_)
  {
  refine Kd.R_lit_step (Kd.int .i64) _ 3 (by rfl) (N := 26) rfl (xs := ([a1_1] : List Int)) (inner := [.int .i64 a1_1]) (ok := fun _ => True) (okp := fun _ => True) ?hr ?hp (fun _ hk => hk) trivial (Below.refl _ _) (Nat.le_refl _) (by simp) ?_; (case hr => exact qz9); (case hp => exact qz20)
  intro va wa ha hb hg_ hnew_
  have HA := aM ha
  obtain ⟨Aa, ca, rfl⟩ := Kd.R_slice ha
  replace BK2 := aM (blk_below BK2.out hb); replace BK3 := aM (blk_below BK3.out hb); replace HN := aM (Kd.R_below HN.out hb); replace HB := aM (below_step HB.out hb)
  clear ha hb hg_ hnew_
  refine hK.out _ _ ⟨c3_0 BK2.out, c3_1 BK2.out, c3_2 BK2.out, c5_1 BK3.out, c5_3 BK3.out⟩ (fun hHeld => ?_)
  clear hK K
  refine nm_ 26 ?_
  refine two_ (i := 9) (j := 10) (Ni := some 27) (Nj := some 5) (bqz 12 1023) (bqz 12 1535) rfl rfl rfl rfl (two_of HT_.out (by kernel_rfl)) (by decide) (by decide) (fun K hK => ?_) (fun K hK => ?_)
  {
  refine Kd.R_append_rows_step (Kd.int .i64) (w0 := w) w.heap.size (by rfl) (.tmp 23) (.tmp 26) 24 3 (.int .i64 0) 8 rfl Try.underlying24 info3 rfl (by decide) (by omega) (.slice An nr.length cn) nr [a1_1] Aa 1 ca (fun _ => True) (fun _ => False) (by rfl) (by rfl) HN.out (Kd.R_reads' HA.out).2.2 (fun _ _ h => h) (fun _ h => h.elim) (fun _ _ => trivial) HB.out (below_size HB.out) (by have := HNR.out; omega) ?_
  intro vo wo ho hb hg hat
  rw [← NQ.out] at ho
  have HO := aM ho
  obtain ⟨Ao, co, rfl⟩ := Kd.R_slice ho
  replace BK2 := aM (blk_grown BK2.out hg (Kd.R_ne HN.out BK2.out (by decide)))
  replace BK3 := aM (blk_grown BK3.out hg (Kd.R_ne HN.out BK3.out (by decide)))
  replace HB := aM hb
  clear ho hb hg hat HN HA
  refine hK.out _ _ ⟨c3_0 BK2.out, c3_1 BK2.out, c3_2 BK2.out, c5_1 BK3.out, c5_3 BK3.out⟩ (fun hHeld => ?_)
  clear hK K
  refine nm_ 27 ?_
  refine oI_ 10 5 (bqz 12 2047) (fun K hK => ?_)
  refine box_step (by rfl) (N := 5) rfl (cs := #[.slice none 0 0]) (t := 24) ?hr ?_; (case hr => exact qz9)
  intro b5 hg wb hbx hb
  have BK5 := aM hbx
  have GB5 := aM (Nat.le_trans (below_size HB.out) (Nat.le_of_eq hg.symm) : w.heap.size ≤ b5)
  replace BK2 := aM (blk_below BK2.out hb); replace BK3 := aM (blk_below BK3.out hb); replace HO := aM (Kd.R_below HO.out hb); replace HB := aM (below_step HB.out hb)
  clear hbx hg hb
  refine hK.out _ _ ⟨c3_0 BK2.out, c3_1 BK2.out, c3_2 BK2.out, c5_1 BK3.out, c5_3 BK3.out⟩ (fun hHeld => ?_)
  clear hK K
  refine nm_ 5 ?_
  have f5 := blk_frozen BK5.out 0
  have z5 := c1_0 BK5.out
  refine last_ (i := 11) (N := none) (bqz 12 4095) rfl rfl qzc (by decide) (fun K hK => ?_)
  refine sk_ ?_
  refine hK.out _ _ ?_
  clear hK K
  refine dN_ ?_
  clear f5 z5 hHeld
  replace BK2 := aM (blk_far (p := ⟨b5, 0, none⟩) BK2.out (blk_ne BK2.out BK5.out (by decide)) (.slice Ao q.length co))
  replace BK3 := aM (blk_far (p := ⟨b5, 0, none⟩) BK3.out (blk_ne BK3.out BK5.out (by decide)) (.slice Ao q.length co))
  replace HO := aM (Kd.R_set HO.out BK5.out (by decide) 0 (.slice Ao q.length co))
  replace HB := aM (below_set HB.out GB5.out (j := 0) (v := .slice Ao q.length co))
  replace BK5 := aM (blk_put BK5.out 0 (.slice Ao q.length co) rfl)
  go_wp2
  go_meet
  case rel => exact ⟨_, _, _, rfl, BK2, BK3, BK5, GB5, HO, HB⟩
  }
  {
  refine box_step (by rfl) (N := 5) rfl (cs := #[.slice none 0 0]) (t := 24) ?hr ?_; (case hr => exact qz9)
  intro b5 hg wb hbx hb
  have BK5 := aM hbx
  have GB5 := aM (Nat.le_trans (below_size HB.out) (Nat.le_of_eq hg.symm) : w.heap.size ≤ b5)
  replace BK2 := aM (blk_below BK2.out hb); replace BK3 := aM (blk_below BK3.out hb); replace HN := aM (Kd.R_below HN.out hb); replace HA := aM (Kd.R_below HA.out hb); replace HB := aM (below_step HB.out hb)
  clear hbx hg hb
  refine hK.out _ _ ⟨c3_0 BK2.out, c3_1 BK2.out, c3_2 BK2.out, c5_1 BK3.out, c5_3 BK3.out⟩ (fun hHeld => ?_)
  clear hK K
  refine nm_ 5 ?_
  refine oI_ 9 27 (bqz 12 2047) (fun K hK => ?_)
  refine Kd.R_append_rows_step (Kd.int .i64) (w0 := w) w.heap.size (by rfl) (.tmp 23) (.tmp 26) 24 3 (.int .i64 0) 8 rfl Try.underlying24 info3 rfl (by decide) (by omega) (.slice An nr.length cn) nr [a1_1] Aa 1 ca (fun _ => True) (fun _ => False) (by rfl) (by rfl) HN.out (Kd.R_reads' HA.out).2.2 (fun _ _ h => h) (fun _ h => h.elim) (fun _ _ => trivial) HB.out (below_size HB.out) (by have := HNR.out; omega) ?_
  intro vo wo ho hb hg hat
  rw [← NQ.out] at ho
  have HO := aM ho
  obtain ⟨Ao, co, rfl⟩ := Kd.R_slice ho
  replace BK2 := aM (blk_grown BK2.out hg (Kd.R_ne HN.out BK2.out (by decide)))
  replace BK3 := aM (blk_grown BK3.out hg (Kd.R_ne HN.out BK3.out (by decide)))
  replace BK5 := aM (blk_grown BK5.out hg (Kd.R_ne HN.out BK5.out (by decide)))
  replace HB := aM hb
  clear ho hb hg hat HN HA
  refine hK.out _ _ ⟨c3_0 BK2.out, c3_1 BK2.out, c3_2 BK2.out, c5_1 BK3.out, c5_3 BK3.out⟩ (fun hHeld => ?_)
  clear hK K
  refine nm_ 27 ?_
  have f5 := blk_frozen BK5.out 0
  have z5 := c1_0 BK5.out
  refine last_ (i := 11) (N := none) (bqz 12 4095) rfl rfl qzc (by decide) (fun K hK => ?_)
  refine sk_ ?_
  refine hK.out _ _ ?_
  clear hK K
  refine dN_ ?_
  clear f5 z5 hHeld
  replace BK2 := aM (blk_far (p := ⟨b5, 0, none⟩) BK2.out (blk_ne BK2.out BK5.out (by decide)) (.slice Ao q.length co))
  replace BK3 := aM (blk_far (p := ⟨b5, 0, none⟩) BK3.out (blk_ne BK3.out BK5.out (by decide)) (.slice Ao q.length co))
  replace HO := aM (Kd.R_set HO.out BK5.out (by decide) 0 (.slice Ao q.length co))
  replace HB := aM (below_set HB.out GB5.out (j := 0) (v := .slice Ao q.length co))
  replace BK5 := aM (blk_put BK5.out 0 (.slice Ao q.length co) rfl)
  go_wp2
  go_meet
  case rel => exact ⟨_, _, _, rfl, BK2, BK3, BK5, GB5, HO, HB⟩
  }
  }
  {
  refine box_step (by rfl) (N := 5) rfl (cs := #[.slice none 0 0]) (t := 24) ?hr ?_; (case hr => exact qz9)
  intro b5 hg wb hbx hb
  have BK5 := aM hbx
  have GB5 := aM (Nat.le_trans (below_size HB.out) (Nat.le_of_eq hg.symm) : w.heap.size ≤ b5)
  replace BK2 := aM (blk_below BK2.out hb); replace BK3 := aM (blk_below BK3.out hb); replace HN := aM (Kd.R_below HN.out hb); replace HB := aM (below_step HB.out hb)
  clear hbx hg hb
  refine hK.out _ _ ⟨c3_0 BK2.out, c3_1 BK2.out, c3_2 BK2.out, c5_1 BK3.out, c5_3 BK3.out⟩ (fun hHeld => ?_)
  clear hK K
  refine nm_ 5 ?_
  refine oI_ 8 26 (bqz 12 1535) (fun K hK => ?_)
  refine Kd.R_lit_step (Kd.int .i64) _ 3 (by rfl) (N := 26) rfl (xs := ([a1_1] : List Int)) (inner := [.int .i64 a1_1]) (ok := fun _ => True) (okp := fun _ => True) ?hr ?hp (fun _ hk => hk) trivial (Below.refl _ _) (Nat.le_refl _) (by simp) ?_; (case hr => exact qz9); (case hp => exact qz20)
  intro va wa ha hb hg_ hnew_
  have HA := aM ha
  obtain ⟨Aa, ca, rfl⟩ := Kd.R_slice ha
  replace BK2 := aM (blk_below BK2.out hb); replace BK3 := aM (blk_below BK3.out hb); replace BK5 := aM (blk_below BK5.out hb); replace HN := aM (Kd.R_below HN.out hb); replace HB := aM (below_step HB.out hb)
  clear ha hb hg_ hnew_
  refine hK.out _ _ ⟨c3_0 BK2.out, c3_1 BK2.out, c3_2 BK2.out, c5_1 BK3.out, c5_3 BK3.out⟩ (fun hHeld => ?_)
  clear hK K
  refine nm_ 26 ?_
  refine oI_ 9 27 (bqz 12 2047) (fun K hK => ?_)
  refine Kd.R_append_rows_step (Kd.int .i64) (w0 := w) w.heap.size (by rfl) (.tmp 23) (.tmp 26) 24 3 (.int .i64 0) 8 rfl Try.underlying24 info3 rfl (by decide) (by omega) (.slice An nr.length cn) nr [a1_1] Aa 1 ca (fun _ => True) (fun _ => False) (by rfl) (by rfl) HN.out (Kd.R_reads' HA.out).2.2 (fun _ _ h => h) (fun _ h => h.elim) (fun _ _ => trivial) HB.out (below_size HB.out) (by have := HNR.out; omega) ?_
  intro vo wo ho hb hg hat
  rw [← NQ.out] at ho
  have HO := aM ho
  obtain ⟨Ao, co, rfl⟩ := Kd.R_slice ho
  replace BK2 := aM (blk_grown BK2.out hg (Kd.R_ne HN.out BK2.out (by decide)))
  replace BK3 := aM (blk_grown BK3.out hg (Kd.R_ne HN.out BK3.out (by decide)))
  replace BK5 := aM (blk_grown BK5.out hg (Kd.R_ne HN.out BK5.out (by decide)))
  replace HB := aM hb
  clear ho hb hg hat HN HA
  refine hK.out _ _ ⟨c3_0 BK2.out, c3_1 BK2.out, c3_2 BK2.out, c5_1 BK3.out, c5_3 BK3.out⟩ (fun hHeld => ?_)
  clear hK K
  refine nm_ 27 ?_
  have f5 := blk_frozen BK5.out 0
  have z5 := c1_0 BK5.out
  refine last_ (i := 11) (N := none) (bqz 12 4095) rfl rfl qzc (by decide) (fun K hK => ?_)
  refine sk_ ?_
  refine hK.out _ _ ?_
  clear hK K
  refine dN_ ?_
  clear f5 z5 hHeld
  replace BK2 := aM (blk_far (p := ⟨b5, 0, none⟩) BK2.out (blk_ne BK2.out BK5.out (by decide)) (.slice Ao q.length co))
  replace BK3 := aM (blk_far (p := ⟨b5, 0, none⟩) BK3.out (blk_ne BK3.out BK5.out (by decide)) (.slice Ao q.length co))
  replace HO := aM (Kd.R_set HO.out BK5.out (by decide) 0 (.slice Ao q.length co))
  replace HB := aM (below_set HB.out GB5.out (j := 0) (v := .slice Ao q.length co))
  replace BK5 := aM (blk_put BK5.out 0 (.slice Ao q.length co) rfl)
  go_wp2
  go_meet
  case rel => exact ⟨_, _, _, rfl, BK2, BK3, BK5, GB5, HO, HB⟩
  }
  }
  {
  refine Kd.R_lit_step (Kd.int .i64) _ 3 (by rfl) (N := 26) rfl (xs := ([a1_1] : List Int)) (inner := [.int .i64 a1_1]) (ok := fun _ => True) (okp := fun _ => True) ?hr ?hp (fun _ hk => hk) trivial (Below.refl _ _) (Nat.le_refl _) (by simp) ?_; (case hr => exact qz9); (case hp => exact qz20)
  intro va wa ha hb hg_ hnew_
  have HA := aM ha
  obtain ⟨Aa, ca, rfl⟩ := Kd.R_slice ha
  replace BK2 := aM (blk_below BK2.out hb); replace BK3 := aM (blk_below BK3.out hb); replace HB := aM (below_step HB.out hb)
  clear ha hb hg_ hnew_
  refine hK.out _ _ ⟨c3_0 BK2.out, c3_1 BK2.out, c3_2 BK2.out, c5_1 BK3.out, c5_3 BK3.out⟩ (fun hHeld => ?_)
  clear hK K
  refine nm_ 26 ?_
  refine two_ (i := 5) (j := 10) (Ni := some 23) (Nj := some 5) (bqz 12 511) (bqz 12 1503) rfl rfl rfl rfl (two_of HT_.out (by kernel_rfl)) (by decide) (by decide) (fun K hK => ?_) (fun K hK => ?_)
  {
  refine goes_ Try.func66 (by kernel_rfl) rfl #[.agg #[.int .i64 a0_0, .int .i64 a0_1, .slice A0_2 l0_2.length c0_2], .int .i64 a1_1, .bool a1_3] (by rfl) rfl rfl qz30 ?_
  refine (impl_near.calls k a0_0 a0_1 _ _ l0_2 a1_1 a1_3 nr _ (Kd.C_below HR.out HB.out) HC.out H3.out).mono ?_
  rintro e wn ⟨vn, rfl, hn, hb⟩
  refine ⟨_, rfl, ?_⟩
  have HN := aM (Kd.R_lower hn (below_size HB.out))
  obtain ⟨An, cn, rfl⟩ := Kd.R_slice hn
  replace BK2 := aM (blk_below BK2.out hb); replace BK3 := aM (blk_below BK3.out hb); replace HA := aM (Kd.R_below HA.out hb); replace HB := aM (below_step HB.out hb)
  clear hn hb
  refine hK.out _ _ ⟨c3_0 BK2.out, c3_1 BK2.out, c3_2 BK2.out, c5_1 BK3.out, c5_3 BK3.out⟩ (fun hHeld => ?_)
  clear hK K
  refine nm_ 23 ?_
  refine two_ (i := 9) (j := 10) (Ni := some 27) (Nj := some 5) (bqz 12 1023) (bqz 12 1535) rfl rfl rfl rfl (two_of HT_.out (by kernel_rfl)) (by decide) (by decide) (fun K hK => ?_) (fun K hK => ?_)
  {
  refine Kd.R_append_rows_step (Kd.int .i64) (w0 := w) w.heap.size (by rfl) (.tmp 23) (.tmp 26) 24 3 (.int .i64 0) 8 rfl Try.underlying24 info3 rfl (by decide) (by omega) (.slice An nr.length cn) nr [a1_1] Aa 1 ca (fun _ => True) (fun _ => False) (by rfl) (by rfl) HN.out (Kd.R_reads' HA.out).2.2 (fun _ _ h => h) (fun _ h => h.elim) (fun _ _ => trivial) HB.out (below_size HB.out) (by have := HNR.out; omega) ?_
  intro vo wo ho hb hg hat
  rw [← NQ.out] at ho
  have HO := aM ho
  obtain ⟨Ao, co, rfl⟩ := Kd.R_slice ho
  replace BK2 := aM (blk_grown BK2.out hg (Kd.R_ne HN.out BK2.out (by decide)))
  replace BK3 := aM (blk_grown BK3.out hg (Kd.R_ne HN.out BK3.out (by decide)))
  replace HB := aM hb
  clear ho hb hg hat HN HA
  refine hK.out _ _ ⟨c3_0 BK2.out, c3_1 BK2.out, c3_2 BK2.out, c5_1 BK3.out, c5_3 BK3.out⟩ (fun hHeld => ?_)
  clear hK K
  refine nm_ 27 ?_
  refine oI_ 10 5 (bqz 12 2047) (fun K hK => ?_)
  refine box_step (by rfl) (N := 5) rfl (cs := #[.slice none 0 0]) (t := 24) ?hr ?_; (case hr => exact qz9)
  intro b5 hg wb hbx hb
  have BK5 := aM hbx
  have GB5 := aM (Nat.le_trans (below_size HB.out) (Nat.le_of_eq hg.symm) : w.heap.size ≤ b5)
  replace BK2 := aM (blk_below BK2.out hb); replace BK3 := aM (blk_below BK3.out hb); replace HO := aM (Kd.R_below HO.out hb); replace HB := aM (below_step HB.out hb)
  clear hbx hg hb
  refine hK.out _ _ ⟨c3_0 BK2.out, c3_1 BK2.out, c3_2 BK2.out, c5_1 BK3.out, c5_3 BK3.out⟩ (fun hHeld => ?_)
  clear hK K
  refine nm_ 5 ?_
  have f5 := blk_frozen BK5.out 0
  have z5 := c1_0 BK5.out
  refine last_ (i := 11) (N := none) (bqz 12 4095) rfl rfl qzc (by decide) (fun K hK => ?_)
  refine sk_ ?_
  refine hK.out _ _ ?_
  clear hK K
  refine dN_ ?_
  clear f5 z5 hHeld
  replace BK2 := aM (blk_far (p := ⟨b5, 0, none⟩) BK2.out (blk_ne BK2.out BK5.out (by decide)) (.slice Ao q.length co))
  replace BK3 := aM (blk_far (p := ⟨b5, 0, none⟩) BK3.out (blk_ne BK3.out BK5.out (by decide)) (.slice Ao q.length co))
  replace HO := aM (Kd.R_set HO.out BK5.out (by decide) 0 (.slice Ao q.length co))
  replace HB := aM (below_set HB.out GB5.out (j := 0) (v := .slice Ao q.length co))
  replace BK5 := aM (blk_put BK5.out 0 (.slice Ao q.length co) rfl)
  go_wp2
  go_meet
  case rel => exact ⟨_, _, _, rfl, BK2, BK3, BK5, GB5, HO, HB⟩
  }
  {
  refine box_step (by rfl) (N := 5) rfl (cs := #[.slice none 0 0]) (t := 24) ?hr ?_; (case hr => exact qz9)
  intro b5 hg wb hbx hb
  have BK5 := aM hbx
  have GB5 := aM (Nat.le_trans (below_size HB.out) (Nat.le_of_eq hg.symm) : w.heap.size ≤ b5)
  replace BK2 := aM (blk_below BK2.out hb); replace BK3 := aM (blk_below BK3.out hb); replace HN := aM (Kd.R_below HN.out hb); replace HA := aM (Kd.R_below HA.out hb); replace HB := aM (below_step HB.out hb)
  clear hbx hg hb
  refine hK.out _ _ ⟨c3_0 BK2.out, c3_1 BK2.out, c3_2 BK2.out, c5_1 BK3.out, c5_3 BK3.out⟩ (fun hHeld => ?_)
  clear hK K
  refine nm_ 5 ?_
  refine oI_ 9 27 (bqz 12 2047) (fun K hK => ?_)
  refine Kd.R_append_rows_step (Kd.int .i64) (w0 := w) w.heap.size (by rfl) (.tmp 23) (.tmp 26) 24 3 (.int .i64 0) 8 rfl Try.underlying24 info3 rfl (by decide) (by omega) (.slice An nr.length cn) nr [a1_1] Aa 1 ca (fun _ => True) (fun _ => False) (by rfl) (by rfl) HN.out (Kd.R_reads' HA.out).2.2 (fun _ _ h => h) (fun _ h => h.elim) (fun _ _ => trivial) HB.out (below_size HB.out) (by have := HNR.out; omega) ?_
  intro vo wo ho hb hg hat
  rw [← NQ.out] at ho
  have HO := aM ho
  obtain ⟨Ao, co, rfl⟩ := Kd.R_slice ho
  replace BK2 := aM (blk_grown BK2.out hg (Kd.R_ne HN.out BK2.out (by decide)))
  replace BK3 := aM (blk_grown BK3.out hg (Kd.R_ne HN.out BK3.out (by decide)))
  replace BK5 := aM (blk_grown BK5.out hg (Kd.R_ne HN.out BK5.out (by decide)))
  replace HB := aM hb
  clear ho hb hg hat HN HA
  refine hK.out _ _ ⟨c3_0 BK2.out, c3_1 BK2.out, c3_2 BK2.out, c5_1 BK3.out, c5_3 BK3.out⟩ (fun hHeld => ?_)
  clear hK K
  refine nm_ 27 ?_
  have f5 := blk_frozen BK5.out 0
  have z5 := c1_0 BK5.out
  refine last_ (i := 11) (N := none) (bqz 12 4095) rfl rfl qzc (by decide) (fun K hK => ?_)
  refine sk_ ?_
  refine hK.out _ _ ?_
  clear hK K
  refine dN_ ?_
  clear f5 z5 hHeld
  replace BK2 := aM (blk_far (p := ⟨b5, 0, none⟩) BK2.out (blk_ne BK2.out BK5.out (by decide)) (.slice Ao q.length co))
  replace BK3 := aM (blk_far (p := ⟨b5, 0, none⟩) BK3.out (blk_ne BK3.out BK5.out (by decide)) (.slice Ao q.length co))
  replace HO := aM (Kd.R_set HO.out BK5.out (by decide) 0 (.slice Ao q.length co))
  replace HB := aM (below_set HB.out GB5.out (j := 0) (v := .slice Ao q.length co))
  replace BK5 := aM (blk_put BK5.out 0 (.slice Ao q.length co) rfl)
  go_wp2
  go_meet
  case rel => exact ⟨_, _, _, rfl, BK2, BK3, BK5, GB5, HO, HB⟩
  }
  }
  {
  refine box_step (by rfl) (N := 5) rfl (cs := #[.slice none 0 0]) (t := 24) ?hr ?_; (case hr => exact qz9)
  intro b5 hg wb hbx hb
  have BK5 := aM hbx
  have GB5 := aM (Nat.le_trans (below_size HB.out) (Nat.le_of_eq hg.symm) : w.heap.size ≤ b5)
  replace BK2 := aM (blk_below BK2.out hb); replace BK3 := aM (blk_below BK3.out hb); replace HA := aM (Kd.R_below HA.out hb); replace HB := aM (below_step HB.out hb)
  clear hbx hg hb
  refine hK.out _ _ ⟨c3_0 BK2.out, c3_1 BK2.out, c3_2 BK2.out, c5_1 BK3.out, c5_3 BK3.out⟩ (fun hHeld => ?_)
  clear hK K
  refine nm_ 5 ?_
  refine oI_ 5 23 (bqz 12 1535) (fun K hK => ?_)
  refine goes_ Try.func66 (by kernel_rfl) rfl #[.agg #[.int .i64 a0_0, .int .i64 a0_1, .slice A0_2 l0_2.length c0_2], .int .i64 a1_1, .bool a1_3] (by rfl) rfl rfl qz30 ?_
  refine (impl_near.calls k a0_0 a0_1 _ _ l0_2 a1_1 a1_3 nr _ (Kd.C_below HR.out HB.out) HC.out H3.out).mono ?_
  rintro e wn ⟨vn, rfl, hn, hb⟩
  refine ⟨_, rfl, ?_⟩
  have HN := aM (Kd.R_lower hn (below_size HB.out))
  obtain ⟨An, cn, rfl⟩ := Kd.R_slice hn
  replace BK2 := aM (blk_below BK2.out hb); replace BK3 := aM (blk_below BK3.out hb); replace BK5 := aM (blk_below BK5.out hb); replace HA := aM (Kd.R_below HA.out hb); replace HB := aM (below_step HB.out hb)
  clear hn hb
  refine hK.out _ _ ⟨c3_0 BK2.out, c3_1 BK2.out, c3_2 BK2.out, c5_1 BK3.out, c5_3 BK3.out⟩ (fun hHeld => ?_)
  clear hK K
  refine nm_ 23 ?_
  refine oI_ 9 27 (bqz 12 2047) (fun K hK => ?_)
  refine Kd.R_append_rows_step (Kd.int .i64) (w0 := w) w.heap.size (by rfl) (.tmp 23) (.tmp 26) 24 3 (.int .i64 0) 8 rfl Try.underlying24 info3 rfl (by decide) (by omega) (.slice An nr.length cn) nr [a1_1] Aa 1 ca (fun _ => True) (fun _ => False) (by rfl) (by rfl) HN.out (Kd.R_reads' HA.out).2.2 (fun _ _ h => h) (fun _ h => h.elim) (fun _ _ => trivial) HB.out (below_size HB.out) (by have := HNR.out; omega) ?_
  intro vo wo ho hb hg hat
  rw [← NQ.out] at ho
  have HO := aM ho
  obtain ⟨Ao, co, rfl⟩ := Kd.R_slice ho
  replace BK2 := aM (blk_grown BK2.out hg (Kd.R_ne HN.out BK2.out (by decide)))
  replace BK3 := aM (blk_grown BK3.out hg (Kd.R_ne HN.out BK3.out (by decide)))
  replace BK5 := aM (blk_grown BK5.out hg (Kd.R_ne HN.out BK5.out (by decide)))
  replace HB := aM hb
  clear ho hb hg hat HN HA
  refine hK.out _ _ ⟨c3_0 BK2.out, c3_1 BK2.out, c3_2 BK2.out, c5_1 BK3.out, c5_3 BK3.out⟩ (fun hHeld => ?_)
  clear hK K
  refine nm_ 27 ?_
  have f5 := blk_frozen BK5.out 0
  have z5 := c1_0 BK5.out
  refine last_ (i := 11) (N := none) (bqz 12 4095) rfl rfl qzc (by decide) (fun K hK => ?_)
  refine sk_ ?_
  refine hK.out _ _ ?_
  clear hK K
  refine dN_ ?_
  clear f5 z5 hHeld
  replace BK2 := aM (blk_far (p := ⟨b5, 0, none⟩) BK2.out (blk_ne BK2.out BK5.out (by decide)) (.slice Ao q.length co))
  replace BK3 := aM (blk_far (p := ⟨b5, 0, none⟩) BK3.out (blk_ne BK3.out BK5.out (by decide)) (.slice Ao q.length co))
  replace HO := aM (Kd.R_set HO.out BK5.out (by decide) 0 (.slice Ao q.length co))
  replace HB := aM (below_set HB.out GB5.out (j := 0) (v := .slice Ao q.length co))
  replace BK5 := aM (blk_put BK5.out 0 (.slice Ao q.length co) rfl)
  go_wp2
  go_meet
  case rel => exact ⟨_, _, _, rfl, BK2, BK3, BK5, GB5, HO, HB⟩
  }
  }
  {
  refine box_step (by rfl) (N := 5) rfl (cs := #[.slice none 0 0]) (t := 24) ?hr ?_; (case hr => exact qz9)
  intro b5 hg wb hbx hb
  have BK5 := aM hbx
  have GB5 := aM (Nat.le_trans (below_size HB.out) (Nat.le_of_eq hg.symm) : w.heap.size ≤ b5)
  replace BK2 := aM (blk_below BK2.out hb); replace BK3 := aM (blk_below BK3.out hb); replace HB := aM (below_step HB.out hb)
  clear hbx hg hb
  refine hK.out _ _ ⟨c3_0 BK2.out, c3_1 BK2.out, c3_2 BK2.out, c5_1 BK3.out, c5_3 BK3.out⟩ (fun hHeld => ?_)
  clear hK K
  refine nm_ 5 ?_
  refine two_ (i := 5) (j := 8) (Ni := some 23) (Nj := some 26) (bqz 12 1279) (bqz 12 1503) rfl rfl rfl rfl (two_of HT_.out (by kernel_rfl)) (by decide) (by decide) (fun K hK => ?_) (fun K hK => ?_)
  {
  refine goes_ Try.func66 (by kernel_rfl) rfl #[.agg #[.int .i64 a0_0, .int .i64 a0_1, .slice A0_2 l0_2.length c0_2], .int .i64 a1_1, .bool a1_3] (by rfl) rfl rfl qz30 ?_
  refine (impl_near.calls k a0_0 a0_1 _ _ l0_2 a1_1 a1_3 nr _ (Kd.C_below HR.out HB.out) HC.out H3.out).mono ?_
  rintro e wn ⟨vn, rfl, hn, hb⟩
  refine ⟨_, rfl, ?_⟩
  have HN := aM (Kd.R_lower hn (below_size HB.out))
  obtain ⟨An, cn, rfl⟩ := Kd.R_slice hn
  replace BK2 := aM (blk_below BK2.out hb); replace BK3 := aM (blk_below BK3.out hb); replace BK5 := aM (blk_below BK5.out hb); replace HB := aM (below_step HB.out hb)
  clear hn hb
  refine hK.out _ _ ⟨c3_0 BK2.out, c3_1 BK2.out, c3_2 BK2.out, c5_1 BK3.out, c5_3 BK3.out⟩ (fun hHeld => ?_)
  clear hK K
  refine nm_ 23 ?_
  refine oI_ 8 26 (bqz 12 1535) (fun K hK => ?_)
  refine Kd.R_lit_step (Kd.int .i64) _ 3 (by rfl) (N := 26) rfl (xs := ([a1_1] : List Int)) (inner := [.int .i64 a1_1]) (ok := fun _ => True) (okp := fun _ => True) ?hr ?hp (fun _ hk => hk) trivial (Below.refl _ _) (Nat.le_refl _) (by simp) ?_; (case hr => exact qz9); (case hp => exact qz20)
  intro va wa ha hb hg_ hnew_
  have HA := aM ha
  obtain ⟨Aa, ca, rfl⟩ := Kd.R_slice ha
  replace BK2 := aM (blk_below BK2.out hb); replace BK3 := aM (blk_below BK3.out hb); replace BK5 := aM (blk_below BK5.out hb); replace HN := aM (Kd.R_below HN.out hb); replace HB := aM (below_step HB.out hb)
  clear ha hb hg_ hnew_
  refine hK.out _ _ ⟨c3_0 BK2.out, c3_1 BK2.out, c3_2 BK2.out, c5_1 BK3.out, c5_3 BK3.out⟩ (fun hHeld => ?_)
  clear hK K
  refine nm_ 26 ?_
  refine oI_ 9 27 (bqz 12 2047) (fun K hK => ?_)
  refine Kd.R_append_rows_step (Kd.int .i64) (w0 := w) w.heap.size (by rfl) (.tmp 23) (.tmp 26) 24 3 (.int .i64 0) 8 rfl Try.underlying24 info3 rfl (by decide) (by omega) (.slice An nr.length cn) nr [a1_1] Aa 1 ca (fun _ => True) (fun _ => False) (by rfl) (by rfl) HN.out (Kd.R_reads' HA.out).2.2 (fun _ _ h => h) (fun _ h => h.elim) (fun _ _ => trivial) HB.out (below_size HB.out) (by have := HNR.out; omega) ?_
  intro vo wo ho hb hg hat
  rw [← NQ.out] at ho
  have HO := aM ho
  obtain ⟨Ao, co, rfl⟩ := Kd.R_slice ho
  replace BK2 := aM (blk_grown BK2.out hg (Kd.R_ne HN.out BK2.out (by decide)))
  replace BK3 := aM (blk_grown BK3.out hg (Kd.R_ne HN.out BK3.out (by decide)))
  replace BK5 := aM (blk_grown BK5.out hg (Kd.R_ne HN.out BK5.out (by decide)))
  replace HB := aM hb
  clear ho hb hg hat HN HA
  refine hK.out _ _ ⟨c3_0 BK2.out, c3_1 BK2.out, c3_2 BK2.out, c5_1 BK3.out, c5_3 BK3.out⟩ (fun hHeld => ?_)
  clear hK K
  refine nm_ 27 ?_
  have f5 := blk_frozen BK5.out 0
  have z5 := c1_0 BK5.out
  refine last_ (i := 11) (N := none) (bqz 12 4095) rfl rfl qzc (by decide) (fun K hK => ?_)
  refine sk_ ?_
  refine hK.out _ _ ?_
  clear hK K
  refine dN_ ?_
  clear f5 z5 hHeld
  replace BK2 := aM (blk_far (p := ⟨b5, 0, none⟩) BK2.out (blk_ne BK2.out BK5.out (by decide)) (.slice Ao q.length co))
  replace BK3 := aM (blk_far (p := ⟨b5, 0, none⟩) BK3.out (blk_ne BK3.out BK5.out (by decide)) (.slice Ao q.length co))
  replace HO := aM (Kd.R_set HO.out BK5.out (by decide) 0 (.slice Ao q.length co))
  replace HB := aM (below_set HB.out GB5.out (j := 0) (v := .slice Ao q.length co))
  replace BK5 := aM (blk_put BK5.out 0 (.slice Ao q.length co) rfl)
  go_wp2
  go_meet
  case rel => exact ⟨_, _, _, rfl, BK2, BK3, BK5, GB5, HO, HB⟩
  }
  {
  refine Kd.R_lit_step (Kd.int .i64) _ 3 (by rfl) (N := 26) rfl (xs := ([a1_1] : List Int)) (inner := [.int .i64 a1_1]) (ok := fun _ => True) (okp := fun _ => True) ?hr ?hp (fun _ hk => hk) trivial (Below.refl _ _) (Nat.le_refl _) (by simp) ?_; (case hr => exact qz9); (case hp => exact qz20)
  intro va wa ha hb hg_ hnew_
  have HA := aM ha
  obtain ⟨Aa, ca, rfl⟩ := Kd.R_slice ha
  replace BK2 := aM (blk_below BK2.out hb); replace BK3 := aM (blk_below BK3.out hb); replace BK5 := aM (blk_below BK5.out hb); replace HB := aM (below_step HB.out hb)
  clear ha hb hg_ hnew_
  refine hK.out _ _ ⟨c3_0 BK2.out, c3_1 BK2.out, c3_2 BK2.out, c5_1 BK3.out, c5_3 BK3.out⟩ (fun hHeld => ?_)
  clear hK K
  refine nm_ 26 ?_
  refine oI_ 5 23 (bqz 12 1535) (fun K hK => ?_)
  refine goes_ Try.func66 (by kernel_rfl) rfl #[.agg #[.int .i64 a0_0, .int .i64 a0_1, .slice A0_2 l0_2.length c0_2], .int .i64 a1_1, .bool a1_3] (by rfl) rfl rfl qz30 ?_
  refine (impl_near.calls k a0_0 a0_1 _ _ l0_2 a1_1 a1_3 nr _ (Kd.C_below HR.out HB.out) HC.out H3.out).mono ?_
  rintro e wn ⟨vn, rfl, hn, hb⟩
  refine ⟨_, rfl, ?_⟩
  have HN := aM (Kd.R_lower hn (below_size HB.out))
  obtain ⟨An, cn, rfl⟩ := Kd.R_slice hn
  replace BK2 := aM (blk_below BK2.out hb); replace BK3 := aM (blk_below BK3.out hb); replace BK5 := aM (blk_below BK5.out hb); replace HA := aM (Kd.R_below HA.out hb); replace HB := aM (below_step HB.out hb)
  clear hn hb
  refine hK.out _ _ ⟨c3_0 BK2.out, c3_1 BK2.out, c3_2 BK2.out, c5_1 BK3.out, c5_3 BK3.out⟩ (fun hHeld => ?_)
  clear hK K
  refine nm_ 23 ?_
  refine oI_ 9 27 (bqz 12 2047) (fun K hK => ?_)
  refine Kd.R_append_rows_step (Kd.int .i64) (w0 := w) w.heap.size (by rfl) (.tmp 23) (.tmp 26) 24 3 (.int .i64 0) 8 rfl Try.underlying24 info3 rfl (by decide) (by omega) (.slice An nr.length cn) nr [a1_1] Aa 1 ca (fun _ => True) (fun _ => False) (by rfl) (by rfl) HN.out (Kd.R_reads' HA.out).2.2 (fun _ _ h => h) (fun _ h => h.elim) (fun _ _ => trivial) HB.out (below_size HB.out) (by have := HNR.out; omega) ?_
  intro vo wo ho hb hg hat
  rw [← NQ.out] at ho
  have HO := aM ho
  obtain ⟨Ao, co, rfl⟩ := Kd.R_slice ho
  replace BK2 := aM (blk_grown BK2.out hg (Kd.R_ne HN.out BK2.out (by decide)))
  replace BK3 := aM (blk_grown BK3.out hg (Kd.R_ne HN.out BK3.out (by decide)))
  replace BK5 := aM (blk_grown BK5.out hg (Kd.R_ne HN.out BK5.out (by decide)))
  replace HB := aM hb
  clear ho hb hg hat HN HA
  refine hK.out _ _ ⟨c3_0 BK2.out, c3_1 BK2.out, c3_2 BK2.out, c5_1 BK3.out, c5_3 BK3.out⟩ (fun hHeld => ?_)
  clear hK K
  refine nm_ 27 ?_
  have f5 := blk_frozen BK5.out 0
  have z5 := c1_0 BK5.out
  refine last_ (i := 11) (N := none) (bqz 12 4095) rfl rfl qzc (by decide) (fun K hK => ?_)
  refine sk_ ?_
  refine hK.out _ _ ?_
  clear hK K
  refine dN_ ?_
  clear f5 z5 hHeld
  replace BK2 := aM (blk_far (p := ⟨b5, 0, none⟩) BK2.out (blk_ne BK2.out BK5.out (by decide)) (.slice Ao q.length co))
  replace BK3 := aM (blk_far (p := ⟨b5, 0, none⟩) BK3.out (blk_ne BK3.out BK5.out (by decide)) (.slice Ao q.length co))
  replace HO := aM (Kd.R_set HO.out BK5.out (by decide) 0 (.slice Ao q.length co))
  replace HB := aM (below_set HB.out GB5.out (j := 0) (v := .slice Ao q.length co))
  replace BK5 := aM (blk_put BK5.out 0 (.slice Ao q.length co) rfl)
  go_wp2
  go_meet
  case rel => exact ⟨_, _, _, rfl, BK2, BK3, BK5, GB5, HO, HB⟩
  }
  }
 case rest =>
 obtain ⟨b5, Ao, co, rfl, BK2, BK3, BK5, GB5, HO, HB⟩ := hcut
 have z20 := c3_0 BK2.out; have z21 := c3_1 BK2.out; have z22 := c3_2 BK2.out; have z30 := c5_0 BK3.out; have z31 := c5_1 BK3.out; have z32 := c5_2 BK3.out; have z33 := c5_3 BK3.out; have z34 := c5_4 BK3.out
 have z5 := c1_0 BK5.out
 go_upto_region 4 with (fail)
 go_cut [46] (fun v46 wc => ∃ fl : Bool, v46 = .bool fl ∧ Aside0 ((if fl = true then q ++ [a1_2] else q) = o) ∧ Aside0 (wc.heap[b2]? = some (.cells #[.int .i64 a0_0, .int .i64 a0_1, .slice A0_2 l0_2.length c0_2] 43 (0, 0))) ∧ Aside0 (wc.heap[b3]? = some (.cells #[.int .i64 a1_0, .int .i64 a1_1, .int .i64 a1_2, .bool a1_3, .int .i64 a1_4] 37 (0, 0))) ∧ Aside0 (wc.heap[b5]? = some (.cells #[.slice Ao q.length co] 24 (0, 0))) ∧ Aside0 (Kd.R (Kd.int .i64) 3 wc w.heap.size (fun _ => True) (.slice Ao q.length co) q) ∧ Aside0 (Below w.heap.size w wc))
 case first =>
  by_cases hg0 : 0 ≤ a1_2
  {
  have d1 : decide (a1_2 ≥ 0) = true := decide_eq_true hg0
  have h4 := H4.out
  unfold impl_Choices.o at h4
  rw [← NQ.out] at h4
  rw [if_pos hg0] at h4
  obtain ⟨t1, hA1, h4⟩ := Option.bind_eq_some_iff.mp h4
  have A1 := aM hA1
  clear hA1 hg0
  cases t1 with
  | true =>
   rw [if_pos rfl] at h4
   have EO := aM (Option.some.inj h4)
   clear h4
   refine start_ (n := 19) (S := fun w' => w'.cell? ⟨b2, 0, none⟩ = some (.int .i64 a0_0) ∧ w'.cell? ⟨b2, 1, none⟩ = some (.int .i64 a0_1) ∧ w'.cell? ⟨b2, 2, none⟩ = some (.slice A0_2 l0_2.length c0_2) ∧ w'.cell? ⟨b3, 1, none⟩ = some (.int .i64 a1_1) ∧ w'.cell? ⟨b3, 2, none⟩ = some (.int .i64 a1_2) ∧ w'.cell? ⟨b5, 0, none⟩ = some (.slice Ao q.length co)) (ds := []) #[false, false, false, false, false, false, false, false, false, false, false, false, false, false, false, false, false, false, false] (by kernel_rfl) rfl rfl ⟨z20, z21, z22, z31, z32, z5⟩ (fun hHeld => ?_); refine with_tabW impl_Choices.tab4 impl_Choices.bits4 (fun HT_ HW_ => ?_)
   clear z20 z21 z22 z30 z31 z32 z33 z34 z5
   replace BK2 := aM (blk_drew BK2.out)
   replace BK3 := aM (blk_drew BK3.out)
   replace BK5 := aM (blk_drew BK5.out)
   replace HO := aM (Kd.R_drew HO.out)
   replace HB := aM (below_drew HB.out)
   refine pI_ 0 (bqz 19 1) ?_
   refine sI6_ 1 ?_
   refine jI_ 2 ?_
   refine jI_ 3 ?_
   refine jI_ 5 ?_
   refine sI6_ 4 ?_
   refine sI6_ 6 ?_
   refine oI_ 7 35 (bqz 19 255) (fun K hK => ?_)
   refine goes_ Try.func67 (by kernel_rfl) rfl #[.slice Ao q.length co, .int .i64 a1_2] (by rfl) rfl rfl qz30 ?_
   refine (impl_hasInt.calls k _ _ q a1_2 true _ (Kd.R_reads' HO.out).2.2 (Kd.R_reads' HO.out).2.1 A1.out).mono ?_
   rintro e w9 ⟨rfl, ⟨nd, rfl⟩⟩
   refine ⟨_, rfl, ?_⟩
   replace BK2 := aM (blk_drewN BK2.out nd)
   replace BK3 := aM (blk_drewN BK3.out nd)
   replace BK5 := aM (blk_drewN BK5.out nd)
   replace HO := aM (Kd.R_drewN HO.out nd)
   replace HB := aM (pw_below_drewN HB.out nd)
   refine hK.out _ _ ⟨c3_0 BK2.out, c3_1 BK2.out, c3_2 BK2.out, c5_1 BK3.out, c5_2 BK3.out, c1_0 BK5.out⟩ (fun hHeld => ?_)
   clear hK K
   refine nm_ 35 ?_
   refine jI_ 8 ?_
   refine jI_ 9 ?_
   refine jI_ 10 ?_
   refine jU_ 11 ?_
   refine jU_ 12 ?_
   refine jU_ 13 ?_
   refine jU_ 14 ?_
   refine jU_ 15 ?_
   refine jU_ 16 ?_
   refine jU_ 17 ?_
   refine jI_ 18 ?_
   refine dN_ ?_
   go_wp2
   go_meet
   case rel => exact ⟨_, rfl, ⟨EO.out⟩, BK2, BK3, BK5, HO, HB⟩
  | false =>
   rw [if_neg (by decide)] at h4
   obtain ⟨bs, hA2, h4⟩ := Option.bind_eq_some_iff.mp h4
   obtain ⟨t3, hA3, h4⟩ := Option.bind_eq_some_iff.mp h4
   have A2 := aM hA2
   have A3 := aM hA3
   clear hA2 hA3
   cases t3 with
   | false =>
    rw [if_neg (by decide)] at h4
    have EO := aM (Option.some.inj h4)
    clear h4
    refine start_ (n := 19) (S := fun w' => w'.cell? ⟨b2, 0, none⟩ = some (.int .i64 a0_0) ∧ w'.cell? ⟨b2, 1, none⟩ = some (.int .i64 a0_1) ∧ w'.cell? ⟨b2, 2, none⟩ = some (.slice A0_2 l0_2.length c0_2) ∧ w'.cell? ⟨b3, 1, none⟩ = some (.int .i64 a1_1) ∧ w'.cell? ⟨b3, 2, none⟩ = some (.int .i64 a1_2) ∧ w'.cell? ⟨b5, 0, none⟩ = some (.slice Ao q.length co)) (ds := []) #[false, false, false, false, false, false, false, false, false, false, false, false, false, false, false, false, false, false, false] (by kernel_rfl) rfl rfl ⟨z20, z21, z22, z31, z32, z5⟩ (fun hHeld => ?_); refine with_tabW impl_Choices.tab4 impl_Choices.bits4 (fun HT_ HW_ => ?_)
    clear z20 z21 z22 z30 z31 z32 z33 z34 z5
    replace BK2 := aM (blk_drew BK2.out)
    replace BK3 := aM (blk_drew BK3.out)
    replace BK5 := aM (blk_drew BK5.out)
    replace HO := aM (Kd.R_drew HO.out)
    replace HB := aM (below_drew HB.out)
    refine pI_ 0 (bqz 19 1) ?_
    refine sI6_ 1 ?_
    refine jI_ 2 ?_
    refine jI_ 3 ?_
    refine jI_ 5 ?_
    refine sI6_ 4 ?_
    refine sI6_ 6 ?_
    refine oI_ 7 35 (bqz 19 255) (fun K hK => ?_)
    refine goes_ Try.func67 (by kernel_rfl) rfl #[.slice Ao q.length co, .int .i64 a1_2] (by rfl) rfl rfl qz30 ?_
    refine (impl_hasInt.calls k _ _ q a1_2 false _ (Kd.R_reads' HO.out).2.2 (Kd.R_reads' HO.out).2.1 A1.out).mono ?_
    rintro e w9 ⟨rfl, ⟨nd, rfl⟩⟩
    refine ⟨_, rfl, ?_⟩
    replace BK2 := aM (blk_drewN BK2.out nd)
    replace BK3 := aM (blk_drewN BK3.out nd)
    replace BK5 := aM (blk_drewN BK5.out nd)
    replace HO := aM (Kd.R_drewN HO.out nd)
    replace HB := aM (pw_below_drewN HB.out nd)
    refine hK.out _ _ ⟨c3_0 BK2.out, c3_1 BK2.out, c3_2 BK2.out, c5_1 BK3.out, c5_2 BK3.out, c1_0 BK5.out⟩ (fun hHeld => ?_)
    clear hK K
    refine nm_ 35 ?_
    refine jI_ 8 ?_
    refine jI_ 9 ?_
    refine jI_ 10 ?_
    refine jI_ 12 ?_
    refine jI_ 15 ?_
    refine sI6_ 11 ?_
    refine sI6_ 13 ?_
    refine sI6_ 16 ?_
    refine oI_ 14 42 (bqz 19 131071) (fun K hK => ?_)
    refine goes_ Try.func68 (by kernel_rfl) rfl #[.agg #[.int .i64 a0_0, .int .i64 a0_1, .slice A0_2 l0_2.length c0_2], .int .i64 a1_1] (by rfl) rfl rfl qz30 ?_
    refine (impl_beside.calls k a0_0 a0_1 _ _ l0_2 a1_1 bs _ (Kd.C_below HR.out HB.out) HC.out A2.out).mono ?_
    rintro e w10 ⟨vb, rfl, hn, hb⟩
    refine ⟨_, rfl, ?_⟩
    have HN := aM hn
    obtain ⟨An, cn, rfl⟩ := Kd.R_slice hn
    replace BK2 := aM (blk_below BK2.out hb); replace BK3 := aM (blk_below BK3.out hb); replace BK5 := aM (blk_below BK5.out hb); replace HO := aM (Kd.R_below HO.out hb); replace HB := aM (below_step HB.out hb)
    clear hn hb
    refine hK.out _ _ ⟨c3_0 BK2.out, c3_1 BK2.out, c3_2 BK2.out, c5_1 BK3.out, c5_2 BK3.out, c1_0 BK5.out⟩ (fun hHeld => ?_)
    clear hK K
    refine nm_ 42 ?_
    refine oI_ 17 45 (bqz 19 262143) (fun K hK => ?_)
    refine goes_ Try.func67 (by kernel_rfl) rfl #[.slice An bs.length cn, .int .i64 a1_2] (by rfl) rfl rfl qz30 ?_
    refine (impl_hasInt.calls k _ _ bs a1_2 false _ (Kd.R_reads' HN.out).2.2 (Kd.R_reads' HN.out).2.1 A3.out).mono ?_
    rintro e w11 ⟨rfl, ⟨nd2, rfl⟩⟩
    refine ⟨_, rfl, ?_⟩
    replace BK2 := aM (blk_drewN BK2.out nd2)
    replace BK3 := aM (blk_drewN BK3.out nd2)
    replace BK5 := aM (blk_drewN BK5.out nd2)
    replace HO := aM (Kd.R_drewN HO.out nd2)
    replace HB := aM (pw_below_drewN HB.out nd2)
    refine hK.out _ _ ⟨c3_0 BK2.out, c3_1 BK2.out, c3_2 BK2.out, c5_1 BK3.out, c5_2 BK3.out, c1_0 BK5.out⟩ (fun hHeld => ?_)
    clear hK K
    refine nm_ 45 ?_
    refine jI_ 18 ?_
    refine dN_ ?_
    go_wp2
    go_meet
    case rel => exact ⟨_, rfl, ⟨EO.out⟩, BK2, BK3, BK5, HO, HB⟩
   | true =>
    rw [if_pos rfl] at h4
    have EO := aM (Option.some.inj h4)
    clear h4
    refine start_ (n := 19) (S := fun w' => w'.cell? ⟨b2, 0, none⟩ = some (.int .i64 a0_0) ∧ w'.cell? ⟨b2, 1, none⟩ = some (.int .i64 a0_1) ∧ w'.cell? ⟨b2, 2, none⟩ = some (.slice A0_2 l0_2.length c0_2) ∧ w'.cell? ⟨b3, 1, none⟩ = some (.int .i64 a1_1) ∧ w'.cell? ⟨b3, 2, none⟩ = some (.int .i64 a1_2) ∧ w'.cell? ⟨b5, 0, none⟩ = some (.slice Ao q.length co)) (ds := []) #[false, false, false, false, false, false, false, false, false, false, false, false, false, false, false, false, false, false, false] (by kernel_rfl) rfl rfl ⟨z20, z21, z22, z31, z32, z5⟩ (fun hHeld => ?_); refine with_tabW impl_Choices.tab4 impl_Choices.bits4 (fun HT_ HW_ => ?_)
    clear z20 z21 z22 z30 z31 z32 z33 z34 z5
    replace BK2 := aM (blk_drew BK2.out)
    replace BK3 := aM (blk_drew BK3.out)
    replace BK5 := aM (blk_drew BK5.out)
    replace HO := aM (Kd.R_drew HO.out)
    replace HB := aM (below_drew HB.out)
    refine pI_ 0 (bqz 19 1) ?_
    refine sI6_ 1 ?_
    refine jI_ 2 ?_
    refine jI_ 3 ?_
    refine jI_ 5 ?_
    refine sI6_ 4 ?_
    refine sI6_ 6 ?_
    refine oI_ 7 35 (bqz 19 255) (fun K hK => ?_)
    refine goes_ Try.func67 (by kernel_rfl) rfl #[.slice Ao q.length co, .int .i64 a1_2] (by rfl) rfl rfl qz30 ?_
    refine (impl_hasInt.calls k _ _ q a1_2 false _ (Kd.R_reads' HO.out).2.2 (Kd.R_reads' HO.out).2.1 A1.out).mono ?_
    rintro e w9 ⟨rfl, ⟨nd, rfl⟩⟩
    refine ⟨_, rfl, ?_⟩
    replace BK2 := aM (blk_drewN BK2.out nd)
    replace BK3 := aM (blk_drewN BK3.out nd)
    replace BK5 := aM (blk_drewN BK5.out nd)
    replace HO := aM (Kd.R_drewN HO.out nd)
    replace HB := aM (pw_below_drewN HB.out nd)
    refine hK.out _ _ ⟨c3_0 BK2.out, c3_1 BK2.out, c3_2 BK2.out, c5_1 BK3.out, c5_2 BK3.out, c1_0 BK5.out⟩ (fun hHeld => ?_)
    clear hK K
    refine nm_ 35 ?_
    refine jI_ 8 ?_
    refine jI_ 9 ?_
    refine jI_ 10 ?_
    refine jI_ 12 ?_
    refine jI_ 15 ?_
    refine sI6_ 11 ?_
    refine sI6_ 13 ?_
    refine sI6_ 16 ?_
    refine oI_ 14 42 (bqz 19 131071) (fun K hK => ?_)
    refine goes_ Try.func68 (by kernel_rfl) rfl #[.agg #[.int .i64 a0_0, .int .i64 a0_1, .slice A0_2 l0_2.length c0_2], .int .i64 a1_1] (by rfl) rfl rfl qz30 ?_
    refine (impl_beside.calls k a0_0 a0_1 _ _ l0_2 a1_1 bs _ (Kd.C_below HR.out HB.out) HC.out A2.out).mono ?_
    rintro e w10 ⟨vb, rfl, hn, hb⟩
    refine ⟨_, rfl, ?_⟩
    have HN := aM hn
    obtain ⟨An, cn, rfl⟩ := Kd.R_slice hn
    replace BK2 := aM (blk_below BK2.out hb); replace BK3 := aM (blk_below BK3.out hb); replace BK5 := aM (blk_below BK5.out hb); replace HO := aM (Kd.R_below HO.out hb); replace HB := aM (below_step HB.out hb)
    clear hn hb
    refine hK.out _ _ ⟨c3_0 BK2.out, c3_1 BK2.out, c3_2 BK2.out, c5_1 BK3.out, c5_2 BK3.out, c1_0 BK5.out⟩ (fun hHeld => ?_)
    clear hK K
    refine nm_ 42 ?_
    refine oI_ 17 45 (bqz 19 262143) (fun K hK => ?_)
    refine goes_ Try.func67 (by kernel_rfl) rfl #[.slice An bs.length cn, .int .i64 a1_2] (by rfl) rfl rfl qz30 ?_
    refine (impl_hasInt.calls k _ _ bs a1_2 true _ (Kd.R_reads' HN.out).2.2 (Kd.R_reads' HN.out).2.1 A3.out).mono ?_
    rintro e w11 ⟨rfl, ⟨nd2, rfl⟩⟩
    refine ⟨_, rfl, ?_⟩
    replace BK2 := aM (blk_drewN BK2.out nd2)
    replace BK3 := aM (blk_drewN BK3.out nd2)
    replace BK5 := aM (blk_drewN BK5.out nd2)
    replace HO := aM (Kd.R_drewN HO.out nd2)
    replace HB := aM (pw_below_drewN HB.out nd2)
    refine hK.out _ _ ⟨c3_0 BK2.out, c3_1 BK2.out, c3_2 BK2.out, c5_1 BK3.out, c5_2 BK3.out, c1_0 BK5.out⟩ (fun hHeld => ?_)
    clear hK K
    refine nm_ 45 ?_
    refine jI_ 18 ?_
    refine dN_ ?_
    go_wp2
    go_meet
    case rel => exact ⟨_, rfl, ⟨EO.out⟩, BK2, BK3, BK5, HO, HB⟩
  }
  {
  have d1 : decide (a1_2 ≥ 0) = false := decide_eq_false hg0
  have h4 := H4.out
  unfold impl_Choices.o at h4
  rw [← NQ.out] at h4
  rw [if_neg hg0] at h4
  have EO := aM (Option.some.inj h4)
  clear h4 hg0
  refine start_ (n := 19) (S := fun w' => w'.cell? ⟨b2, 0, none⟩ = some (.int .i64 a0_0) ∧ w'.cell? ⟨b2, 1, none⟩ = some (.int .i64 a0_1) ∧ w'.cell? ⟨b2, 2, none⟩ = some (.slice A0_2 l0_2.length c0_2) ∧ w'.cell? ⟨b3, 1, none⟩ = some (.int .i64 a1_1) ∧ w'.cell? ⟨b3, 2, none⟩ = some (.int .i64 a1_2) ∧ w'.cell? ⟨b5, 0, none⟩ = some (.slice Ao q.length co)) (ds := []) #[false, false, false, false, false, false, false, false, false, false, false, false, false, false, false, false, false, false, false] (by kernel_rfl) rfl rfl ⟨z20, z21, z22, z31, z32, z5⟩ (fun hHeld => ?_); refine with_tabW impl_Choices.tab4 impl_Choices.bits4 (fun HT_ HW_ => ?_)
  clear z20 z21 z22 z30 z31 z32 z33 z34 z5
  replace BK2 := aM (blk_drew BK2.out)
  replace BK3 := aM (blk_drew BK3.out)
  replace BK5 := aM (blk_drew BK5.out)
  replace HO := aM (Kd.R_drew HO.out)
  replace HB := aM (below_drew HB.out)
  refine pI_ 0 (bqz 19 1) ?_
  refine sI6_ 1 ?_
  refine jI_ 2 ?_
  refine jI_ 3 ?_
  refine jU_ 4 ?_
  refine jU_ 5 ?_
  refine jU_ 6 ?_
  refine jU_ 7 ?_
  refine jU_ 8 ?_
  refine jI_ 9 ?_
  refine jI_ 10 ?_
  refine jU_ 11 ?_
  refine jU_ 12 ?_
  refine jU_ 13 ?_
  refine jU_ 14 ?_
  refine jU_ 15 ?_
  refine jU_ 16 ?_
  refine jU_ 17 ?_
  refine jI_ 18 ?_
  refine dN_ ?_
  go_wp2
  go_meet
  case rel => exact ⟨_, rfl, ⟨EO.out⟩, BK2, BK3, BK5, HO, HB⟩
  }
 case rest =>
 obtain ⟨fl, rfl, EO, BK2, BK3, BK5, HO, HB⟩ := hcut
 clear z20 z21 z22 z30 z31 z32 z33 z34 z5
 have z20 := c3_0 BK2.out; have z21 := c3_1 BK2.out; have z22 := c3_2 BK2.out; have z30 := c5_0 BK3.out; have z31 := c5_1 BK3.out; have z32 := c5_2 BK3.out; have z33 := c5_3 BK3.out; have z34 := c5_4 BK3.out
 have z5 := c1_0 BK5.out
 go_upto_if 46 with (fail)
 go_cut [47] (fun v47 wc => ∃ (Aq : Option Addr) (cq : Nat), Aside0 (wc.heap[b2]? = some (.cells #[.int .i64 a0_0, .int .i64 a0_1, .slice A0_2 l0_2.length c0_2] 43 (0, 0))) ∧ Aside0 (wc.heap[b3]? = some (.cells #[.int .i64 a1_0, .int .i64 a1_1, .int .i64 a1_2, .bool a1_3, .int .i64 a1_4] 37 (0, 0))) ∧ Aside0 (wc.heap[b5]? = some (.cells #[.slice Aq o.length cq] 24 (0, 0))) ∧ Aside0 (Kd.R (Kd.int .i64) 3 wc w.heap.size (fun _ => True) (.slice Aq o.length cq) o) ∧ Aside0 (Below w.heap.size w wc))
 case first =>
  cases fl with
  | true =>
   replace EO := aM (show q ++ [a1_2] = o from EO.out)
   go_wp2_with (first
     | ((with_reducible refine gate_builtin (b := .append) (xs := #[.tmp 47, .tmp 50]) rfl ?_); at_builtin; refine Kd.R_append (Kd.int .i64) (w0 := w) w.heap.size rfl (.tmp 47) (.tmp 50) 24 3 (.int .i64 0) 8 rfl Try.underlying24 info3 rfl (by decide) (by omega) (.slice Ao q.length co) q a1_2 [.int .i64 a1_2] (fun _ => True) (fun _ => False) rfl rfl ?aP (fun _ hk => hk.elim) ?aF ?aO ?aB ?aS ?aL ?_; (case aP => exact rfl); (case aB => exact HB.out); (case aF => exact qz21); (case aO => exact HO.out); (case aS => exact below_size HB.out); (case aL => have := LQ.out; omega); intro vq wq ho hb hg hat; rw [EO.out] at ho; obtain ⟨Aq, cq, rfl⟩ := Kd.R_slice ho; replace BK2 := aM (blk_grown BK2.out hg (Kd.R_ne HO.out BK2.out (by decide))); replace BK3 := aM (blk_grown BK3.out hg (Kd.R_ne HO.out BK3.out (by decide))); replace BK5 := aM (blk_grown BK5.out hg (Kd.R_ne HO.out BK5.out (by decide))); replace HB := aM hb; replace HO := aM ho; clear ho hb hg hat z32; have f5 := blk_frozen BK5.out 0; replace z5 := c1_0 BK5.out))
   replace BK2 := aM (blk_far (p := ⟨b5, 0, none⟩) BK2.out (blk_ne BK2.out BK5.out (by decide)) (.slice Aq o.length cq))
   replace BK3 := aM (blk_far (p := ⟨b5, 0, none⟩) BK3.out (blk_ne BK3.out BK5.out (by decide)) (.slice Aq o.length cq))
   replace HO := aM (Kd.R_set HO.out BK5.out (by decide) 0 (.slice Aq o.length cq))
   replace HB := aM (below_set HB.out GB5.out (j := 0) (v := .slice Aq o.length cq))
   replace BK5 := aM (blk_put BK5.out 0 (.slice Aq o.length cq) rfl)
   go_meet
   case rel => exact ⟨_, _, BK2, BK3, BK5, HO, HB⟩
  | false =>
   have e_ : q = o := EO.out
   rw [e_] at BK5 HO
   go_wp2
   go_meet
   case rel => exact ⟨_, _, BK2, BK3, BK5, HO, HB⟩
 case rest =>
 obtain ⟨Aq, cq, BK2, BK3, BK5, HO, HB⟩ := hcut
 have HO20 := aM (show o.length ≤ 20 by have h1 := EO.out; have h2 := LQ.out; rw [← h1]; split <;> simp <;> omega)
 clear z20 z21 z22 z30 z31 z32 z33 z34 z5 H4 LQ NQ EO H1 H2 H3 HNR
 rename World => wB
 have LN := aM (show 0 < l0_2.length by have := HAT0.out; have := HAT1.out; omega)
 have HB0 := HB
 have HB := aM (Below.refl wB.heap.size wB)
 replace HO := aM (Kd.R_bound HO.out)
 have z20 := c3_0 BK2.out; have z21 := c3_1 BK2.out; have z22 := c3_2 BK2.out; have z31 := c5_1 BK3.out; have z32 := c5_2 BK3.out; have z33 := c5_3 BK3.out
 have z5 := c1_0 BK5.out
 have L2 := aM (And.intro (blk_lt BK2.out) (And.intro (blk_lt BK3.out) (blk_lt BK5.out)))
 have nn_ : ((l0_2.length : Int)).toNat = l0_2.length := Int.toNat_natCast _
 have NN := aM nn_
 clear nn_
 have LL := aM (show 0 ≤ (l0_2.length : Int) by omega)
 go_wp2_with (first
  | ((with_reducible refine gate_dst (N := 55) rfl ?_); refine Kd.R_make (Kd.int .i64) _ 3 rfl (N := 55) rfl 24 _ _ rfl (l0_2.length : Int) rfl rfl Try.underlying24 (.int .i64 0) 8 info3 rfl (by decide) (by omega) 0 (ok := fun _ => True) (okp := fun _ => True) rfl (fun _ hk => hk) trivial LL.out (by have := NN.out; have := HLEN.out; omega) (Below.refl _ _) (Nat.le_refl _) ?_; intro vf wf hf hb hg_ hnew_; clear hg_ hnew_; rw [NN.out] at hf; obtain ⟨gf, cf, e_, hgb_, hgl_, _⟩ := Kd.R_form hf (by have := LN.out; rw [List.length_replicate]; exact this); subst e_; rw [List.length_replicate] at hf; have HF := aM (Kd.R_lower hf (below_size HB.out)); have GF := aM (Nat.le_trans (below_size HB.out) hgb_); replace HB := aM (below_step HB.out hb); clear hf hb hgb_ hgl_; replace z20 := c3_0 (blk_below BK2.out HB.out); replace z21 := c3_1 (blk_below BK2.out HB.out); replace z22 := c3_2 (blk_below BK2.out HB.out); replace z31 := c5_1 (blk_below BK3.out HB.out); replace z32 := c5_2 (blk_below BK3.out HB.out); replace z33 := c5_3 (blk_below BK3.out HB.out); replace z5 := c1_0 (blk_below BK5.out HB.out))
  | ((with_reducible refine gate_dst (N := 6) rfl ?_); refine box_event rfl (N := 6) rfl (cs := #[.slice none 0 0]) (t := 24) ?hr ?_; (case hr => exact qz9); intro b6 hg wb hbx hb; have BK6 := aM hbx; have GB6 := aM (Nat.le_trans (below_size HB.out) (Nat.le_of_eq hg.symm) : wB.heap.size ≤ b6); replace HB := aM (below_step HB.out hb); replace HF := aM (Kd.R_below HF.out hb); clear hbx hb hg; replace z20 := c3_0 (blk_below BK2.out HB.out); replace z21 := c3_1 (blk_below BK2.out HB.out); replace z22 := c3_2 (blk_below BK2.out HB.out); replace z31 := c5_1 (blk_below BK3.out HB.out); replace z32 := c5_2 (blk_below BK3.out HB.out); replace z33 := c5_3 (blk_below BK3.out HB.out); replace z5 := c1_0 (blk_below BK5.out HB.out); have z6 := c1_0 BK6.out; have f6 := blk_frozen BK6.out 0))
 replace HF := aM (Kd.R_set HF.out BK6.out (by decide) 0 (.slice (some ⟨gf, 0, none⟩) l0_2.length cf))
 replace HB := aM (below_set HB.out GB6.out (j := 0) (v := .slice (some ⟨gf, 0, none⟩) l0_2.length cf))
 replace BK6 := aM (blk_put BK6.out 0 (.slice (some ⟨gf, 0, none⟩) l0_2.length cf) rfl)
 replace BK6 : Aside0 (_ = some (Obj.cells #[.slice (some ⟨gf, 0, none⟩) l0_2.length cf] 24 (0, 0))) := BK6
 clear z20 z21 z22 z31 z32 z33 z5 z6 f6
 go_loopw [58] (fun v58 wl => ∃ i : Nat, v58 = .int .i64 i ∧ i ≤ l0_2.length ∧ Aside0 (wl.heap[b6]? = some (.cells #[.slice (some ⟨gf, 0, none⟩) l0_2.length cf] 24 (0, 0))) ∧ Aside0 (Kd.R (Kd.int .i64) 3 wl wB.heap.size (fun _ => True) (.slice (some ⟨gf, 0, none⟩) l0_2.length cf) (List.replicate i 1 ++ List.replicate (l0_2.length - i) 0)) ∧ Aside0 (Below wB.heap.size wB wl)) (fun v58 _ => l0_2.length - (intOf v58).toNat)
 case atStart => exact ⟨0, rfl, Nat.zero_le _, BK6, ⟨by simpa using HF.out⟩, HB⟩
 case round =>
 clear HB BK6 HF
 obtain ⟨i, rfl, hi, BK6, HF, HB⟩ := hrel
 have z6 := c1_0 BK6.out
 by_cases hlt : i < l0_2.length
 {
 obtain ⟨cs, hcl, hM, hcc, hfr⟩ := Kd.R_elem HF.out 0 (i : Int) (by omega) (by omega)
 obtain rfl := hM
 have zf := hcc 0 _ rfl
 have ff := hfr 0
 rw [show (Kd.int .i64).sz = 1 from rfl, Nat.mul_one, Nat.add_zero, Int.toNat_natCast] at zf ff
 clear hcl hcc hfr
 have hd : decide ((i : Int) < (l0_2.length : Int)) = true := decide_eq_true (by omega)
 have hi1 : (i : Int) < 1000 := by have := HLEN.out; omega
 have hi2 : (i : Int) < (l0_2.length : Int) := by omega
 go_wp2
 go_roundw
 case rel =>
  refine ⟨i + 1, by go_num, by omega, ⟨?_⟩, ⟨?_⟩, ⟨below_set HB.out GF.out⟩⟩
  {
  exact blk_far (p := ⟨gf, i, none⟩) BK6.out (by have := Kd.R_ne HF.out BK6.out (by decide); intro e; exact this (by rw [e]; rfl)) _
  }
  {
  have h_ := Kd.R_putn HF.out (i : Int) 1
  rw [Int.toNat_natCast] at h_
  have e_ : (List.replicate i (1 : Int) ++ List.replicate (l0_2.length - i) 0).set i 1 = List.replicate (i + 1) 1 ++ List.replicate (l0_2.length - (i + 1)) 0 := by
   obtain ⟨m, hm⟩ : ∃ m, l0_2.length - i = m + 1 := ⟨l0_2.length - i - 1, by omega⟩
   rw [hm, show l0_2.length - (i + 1) = m by omega, List.set_append_right _ _ (by simp)]
   simp only [List.length_replicate, Nat.sub_self, List.replicate_succ (n := m), List.set_cons_zero]
   rw [List.replicate_succ' (n := i), List.append_assoc, List.singleton_append]
  rw [e_] at h_
  exact h_
  }
 case measure => simp [intOf]; omega
 }
 {
 obtain rfl : i = l0_2.length := by omega
 rw [Nat.sub_self, List.replicate_zero, List.append_nil] at HF
 obtain ⟨cs, hcl, hM, hcc, hfr⟩ := Kd.R_elem HF.out 0 a1_1 HAT0.out (by have := HAT1.out; omega)
 obtain rfl := hM
 have zf := hcc 0 _ rfl
 have ff := hfr 0
 rw [show (Kd.int .i64).sz = 1 from rfl, Nat.mul_one, Nat.add_zero] at zf ff
 clear hcl hcc hfr
 have hd : decide ((l0_2.length : Int) < (l0_2.length : Int)) = false := decide_eq_false (by omega)
 have ha0 := HAT0.out
 have ha1 := HAT1.out
 have z20 := c3_0 (blk_below BK2.out HB.out); have z21 := c3_1 (blk_below BK2.out HB.out); have z22 := c3_2 (blk_below BK2.out HB.out); have z31 := c5_1 (blk_below BK3.out HB.out); have z32 := c5_2 (blk_below BK3.out HB.out); have z33 := c5_3 (blk_below BK3.out HB.out); have z5 := c1_0 (blk_below BK5.out HB.out)
 have n3 : b3 ≠ gf := by have := L2.out.2.1; have := GF.out; omega
 have n3' : gf ≠ b3 := fun e => n3 e.symm
 go_upto_if 71 with (fail)
 clear n3 n3' ha0 ha1 zf ff z6 hd z20 z21 z22 z31 z32 z33 z5
 replace BK6 := aM (blk_far (p := ⟨gf, a1_1.toNat, none⟩) BK6.out (by have := Kd.R_ne HF.out BK6.out (by decide); intro e; exact this (by rw [e]; rfl)) (.int .i64 0))
 replace HF := aM (Kd.R_putn HF.out a1_1 0)
 replace HB := aM (below_set HB.out GF.out (j := a1_1.toNat) (v := .int .i64 0))
 generalize wr.setCell ⟨gf, a1_1.toNat, none⟩ (.int .i64 0) = wk at BK6 HF HB ⊢
 go_cut [72] (fun v72 wd => ∃ (Af : Option Addr) (cf : Nat), Aside0 (wd.heap[b6]? = some (.cells #[.slice Af far.length cf] 24 (0, 0))) ∧ Aside0 (Kd.R (Kd.int .i64) 3 wd wB.heap.size (fun _ => True) (.slice Af far.length cf) far) ∧ Aside0 (Below wB.heap.size wB wd))
 case first =>
  have h5 := H5.out
  unfold impl_Choices.far at h5
  by_cases hg0 : 0 ≤ a1_2
  {
  have d1 : decide (a1_2 ≥ 0) = true := decide_eq_true hg0
  rw [if_pos hg0] at h5
  have A5 := aM h5
  clear h5
  have d2 : decide (0 ≤ a1_2) = true := decide_eq_true hg0
  have z20 := c3_0 (blk_below BK2.out HB.out); have z21 := c3_1 (blk_below BK2.out HB.out); have z22 := c3_2 (blk_below BK2.out HB.out); have z31 := c5_1 (blk_below BK3.out HB.out); have z32 := c5_2 (blk_below BK3.out HB.out); have z33 := c5_3 (blk_below BK3.out HB.out); have z5 := c1_0 (blk_below BK5.out HB.out)
  have HC9 := aM (Kd.C_below HR.out HB0.out)
  go_wp2_with (first
   | (go_at_call 69; (with_reducible refine (impl_field.calls k a0_0 a0_1 _ _ l0_2 a1_2 a1_3 far _ (Kd.C_below HC9.out HB.out) HC.out A5.out).mono ?_); rintro e w9 ⟨v9, rfl, hn, hb⟩; obtain ⟨Af, cg, rfl⟩ := Kd.R_slice hn; have HN := aM (Kd.R_lower hn (below_size HB.out)); replace BK6 := aM (blk_below BK6.out hb); replace HB := aM (below_step HB.out hb); clear hn hb; have z6 := c1_0 BK6.out; have f6 := blk_frozen BK6.out 0))
  go_meet
  case rel => exact ⟨Af, cg, ⟨blk_put BK6.out 0 _ rfl⟩, ⟨Kd.R_set HN.out BK6.out (by decide) 0 _⟩, ⟨below_set HB.out GB6.out⟩⟩
  }
  {
  have d1 : decide (a1_2 ≥ 0) = false := decide_eq_false hg0
  rw [if_neg hg0] at h5
  have A5 := aM (Option.some.inj h5)
  clear h5
  have hg1 : a1_2 < 0 := by omega
  have d2 : decide (0 ≤ a1_2) = false := decide_eq_false hg0
  go_wp2
  go_meet
  case rel =>
  have e_ := A5.out
  have e2_ : far.length = l0_2.length := by rw [← e_]; simp
  refine ⟨some ⟨gf, 0, none⟩, cf, ⟨?_⟩, ⟨?_⟩, HB⟩
  {
  rw [e2_]; exact BK6.out
  }
  {
  rw [e2_, ← e_]; exact HF.out
  }
  }
 case rest =>
 obtain ⟨Af, cg, BK6, HF, HB⟩ := hcut
 have HBW := aM (Nat.le_trans (below_size HB0.out) (Nat.le_refl _))
 have z5 := c1_0 (blk_below BK5.out HB.out)
 have hmf : ∀ (fn : Fn) (first cap : Array Value) (w : World), (Instr.makeFunc fn first cap).run Try.prog w = .ok (.func fn first cap) w := fun _ _ _ _ => rfl
 have hsf : ∀ (a : Addr) (fn : Fn) (x y : Array Value) (W : World), (store a (.func fn x y)).run Try.prog W = stored Try.prog W a (.func fn x y) .plain := fun _ _ _ _ _ => run_store _ _ _ _ _ rfl
 have hmi : ∀ (W : World), (Instr.makeInterface 24 (.slice Aq o.length cq)).run Try.prog W = .ok (.iface 24 (.slice Aq o.length cq)) W := fun _ => by kernel_rfl
 go_upto_region 16 with ((with_reducible refine gate_dst (N := 8) rfl ?_); refine box_event rfl (N := 8) rfl (cs := #[.nilFunc]) (t := 82) ?hr ?_; (case hr => exact qz9); intro b8 hg wb hbx hb; have BK8 := aM hbx; have GB8 := aM (Nat.le_trans (below_size HB.out) (Nat.le_of_eq hg.symm) : wB.heap.size ≤ b8); replace HB := aM (below_step HB.out hb); replace HF := aM (Kd.R_below HF.out hb); replace BK6 := aM (blk_below BK6.out hb); clear hbx hb hg; replace z5 := c1_0 (blk_below BK5.out HB.out); have z8 := c1_0 BK8.out; have f8 := blk_frozen BK8.out 0)
 have n68 : b6 ≠ b8 := by have h1_ := blk_lt BK6.out; intro e; subst e; exact absurd (Option.some.inj (BK6.out.symm.trans BK8.out)) (by intro e; injection e with e1 e2; exact absurd e2 (by decide))
 replace BK6 := aM (blk_far (p := ⟨b8, 0, none⟩) BK6.out n68 (.func (.func 70) #[] #[.pointer (some ⟨b6, 0, none⟩), .pointer (some ⟨b2, 0, none⟩)]))
 replace HF := aM (Kd.R_set HF.out BK8.out (by decide) 0 (.func (.func 70) #[] #[.pointer (some ⟨b6, 0, none⟩), .pointer (some ⟨b2, 0, none⟩)]))
 replace HB := aM (below_set HB.out GB8.out (j := 0) (v := (.func (.func 70) #[] #[.pointer (some ⟨b6, 0, none⟩), .pointer (some ⟨b2, 0, none⟩)])))
 replace BK8 : Aside0 (_ = some (Obj.cells #[(.func (.func 70) #[] #[.pointer (some ⟨b6, 0, none⟩), .pointer (some ⟨b2, 0, none⟩)])] 82 (0, 0))) := aM (blk_put BK8.out 0 (.func (.func 70) #[] #[.pointer (some ⟨b6, 0, none⟩), .pointer (some ⟨b2, 0, none⟩)]) rfl)
 generalize wb.setCell ⟨b8, 0, none⟩ (.func (.func 70) #[] #[.pointer (some ⟨b6, 0, none⟩), .pointer (some ⟨b2, 0, none⟩)]) = wk at BK6 BK8 HF HB ⊢
 clear z5 z8 f8 n68
 have z5 := c1_0 (blk_below BK5.out HB.out)
 have HO9 := aM (Kd.R_below HO.out HB.out)
 have hS := sort_few (fun x => 0 ≤ x ∧ x < (far.length : Int)) (farLt far (l0_2.length : Int) a1_1) 71 #[.pointer (some ⟨b5, 0, none⟩), .pointer (some ⟨b8, 0, none⟩), .pointer (some ⟨b3, 0, none⟩)] (enters_of Try.func71 (by kernel_rfl) rfl) Aq o.length cq o w.heap.size _ HO20.out wk HO9.out H6.out
  (fun blk e W dk hl hs i j hi hj => by
   subst e
   have hb := HO.out.1 blk rfl
   have HF2 := Kd.R_bound HF.out
   have key : ∀ {b : Nat} {t : TypeId} {cs : Array Value}, wk.heap[b]? = some (.cells cs t (0, 0)) → 3 ≠ t → W.heap[b]? = some (.cells cs t (0, 0)) := fun hh ht => blk_grown hh hl.gr (Kd.R_ne HO9.out hh ht)
   have hi' : i < dk.size := by rw [hs]; exact hi
   have hj' : j < dk.size := by rw [hs]; exact hj
   have hx := (hl.ho i hi').1
   have hy := (hl.ho j hj').1
   rw [Nat.zero_add] at hx hy
   have hF := Kd.R_grown HF2 hl.gr (fun k hk => by have h1 := hk.2.1; have h2 := hb.2.2.1; intro e; injection e with e; omega)
   exact impl_ChoicesL.calls Af cg far W (Kd.R_reads' hF).2.2 b6 b2 b5 b8 b3 A0_2 l0_2.length c0_2 (c1_0 (key BK6.out (by decide))) (c3_2 (key (blk_below BK2.out HB.out) (by decide))) HLEN.out (c1_0 (key BK8.out (by decide))) a1_1 (c5_1 (key (blk_below BK3.out HB.out) (by decide))) blk _ cq (c1_0 (key (blk_below BK5.out HB.out) (by decide))) i j hi hj dk[i]! dk[j]! hx hy (hl.al i hi').1 (hl.al i hi').2 (hl.al j hj').1 (hl.al j hj').2)
 have HS := aM hS
 clear hS
 go_wp2_with (go_at_call 54; refine HS.out.mono ?_; rintro e w3 ⟨rfl, hR, hG⟩; have HR3 := aM hR; have HG3 := aM (Kd.R_base HO9.out); have BK5z := aM (blk_grown (blk_below BK5.out HB.out) hG (Kd.R_ne HO9.out (blk_below BK5.out HB.out) (by decide))); have HB3 := aM (pw_below_grown (below_step HB0.out HB.out) _ (below_size (below_step HB0.out HB.out)) hG HG3.out); clear hR hG z5; have z5 := c1_0 BK5z.out)
 go_ret
 refine ⟨_, rfl, ?_, HB3.out⟩
 rw [HRR.out]
 exact Kd.R_mono HR3.out (fun _ _ => trivial)
 }
theorem impl_Choices.calls (k : Nat) (a0_0 : Int) (a0_1 : Int) (A0_2 : Option Addr) (c0_2 : Nat) (l0_2 : List Int) (a1_0 : Int) (a1_1 : Int) (a1_2 : Int) (a1_3 : Bool) (a1_4 : Int) (r : List Int) (w : World) (hr0_2 : Kd.C (Kd.int .i64) w A0_2 l0_2.length l0_2) (hc0_2 : l0_2.length ≤ c0_2) (h : impl_Choices.f k a0_0 a0_1 l0_2 a1_0 a1_1 a1_2 a1_3 a1_4 = some r) :
  Calls Try.prog 29 #[.agg #[.int .i64 a0_0, .int .i64 a0_1, .slice A0_2 l0_2.length c0_2], .agg #[.int .i64 a1_0, .int .i64 a1_1, .int .i64 a1_2, .bool a1_3, .int .i64 a1_4]] w fun e w' => ∃ v0_ : Value, e = .returned v0_ ∧ Kd.R (Kd.int .i64) 3 w' w.heap.size (fun _ => True) v0_ r ∧ Below w.heap.size w w' := by
 unfold impl_Choices.f at h
 obtain ⟨b1, h1, h⟩ := Option.bind_eq_some_iff.mp h
 cases b1 with
 | false =>
  rw [if_neg (by decide)] at h
  exact impl_Choices.callsN k _ _ _ _ _ _ _ _ _ _ r w hr0_2 hc0_2 h1 (Option.some.inj h).symm
 | true =>
  rw [if_pos rfl] at h
  obtain ⟨b2, h2, h⟩ := Option.bind_eq_some_iff.mp h
  cases b2 with
  | false =>
   rw [if_neg (by decide)] at h
   exact impl_Choices.callsS k _ _ _ _ _ _ _ _ _ _ r w hr0_2 hc0_2 h1 h2 (Option.some.inj h).symm
  | true =>
   rw [if_pos rfl] at h
   by_cases a0 : 0 ≤ a1_1
   {
   rw [if_pos a0] at h
   by_cases a1 : a1_1 < (l0_2.length : Int)
   {
   rw [if_pos a1] at h
   by_cases a2 : l0_2.length ≤ 1000
   {
   rw [if_pos a2] at h
   obtain ⟨nr, h3, h⟩ := Option.bind_eq_some_iff.mp h
   by_cases a3 : nr.length ≤ 15
   {
   rw [if_pos a3] at h
   obtain ⟨o, h4, h⟩ := Option.bind_eq_some_iff.mp h
   obtain ⟨far, h5, h⟩ := Option.bind_eq_some_iff.mp h
   by_cases a4 : ∀ x ∈ o, 0 ≤ x ∧ x < (far.length : Int)
   {
   rw [if_pos a4] at h
   exact impl_Choices.callsM k _ _ _ _ _ _ _ _ _ _ r w hr0_2 hc0_2 h1 h2 a0 a1 a2 nr h3 a3 o far h4 h5 a4 (Option.some.inj h).symm
   }
   {
   rw [if_neg a4] at h; cases h
   }
   }
   {
   rw [if_neg a3] at h; cases h
   }
   }
   {
   rw [if_neg a2] at h; cases h
   }
   }
   {
   rw [if_neg a1] at h; cases h
   }
   }
   {
   rw [if_neg a0] at h; cases h
   }
end Go.Proofs.Ytankmdbbgepmbaa.PFnClashes
