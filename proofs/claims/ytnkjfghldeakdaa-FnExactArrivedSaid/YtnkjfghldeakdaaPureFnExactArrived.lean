/- Proved here: the law FnExactArrived, over numbers and lists: for all arguments it returns true; no condition. -/
import Derived.Test.YtnkjfghldeakdaaPFnExactArrivedx2
namespace Go.Proofs.Ytnkjfghldeakdaa.Pure
open Go.RowKit Go.Proofs.Ytnkjfghldeakdaa.PFnExactArrived Go.Proofs.YtnkjfghldeakdaaW.PrintWords Go.Proofs.YtnkjfghldeakdaaW.PrintLast
set_option linter.unusedVariables false
set_option linter.unusedSimpArgs false

/-! #### base -/
/-! Words of this session: rounds, whole numbers in their bounds, reading by index. -/
theorem Ev.unroll {α : Type} {g : Nat → Option α} {r : α} (h : Ev (fun k => g (k + 1)) r) : Ev g r := Ev.step (fun _ => rfl) h
theorem Ev.const {α : Type} {x : Option α} {r : α} (h : x = some r) : Ev (fun _ => x) r := ⟨0, fun _ _ => h⟩
theorem Ev.fin {α : Type} {r s : α} (h : r = s) : Ev (fun _ => some r) s := by rw [h]; exact Ev.now _
theorem wrap_id {x : Int} (h0 : -9223372036854775808 ≤ x) (h1 : x ≤ 9223372036854775807) : wrap64 x = x := by unfold wrap64; omega
/-- The bound of all lengths here. -/
abbrev BIG : Nat := 4611686018427387904
theorem wrap_succ {i n : Nat} (h : i < n) (hn : n ≤ BIG) : wrap64 ((i : Int) + 1) = ((i + 1 : Nat) : Int) := by unfold wrap64; unfold BIG at hn; omega
theorem wrap_pred {i n : Nat} (h : i < n) (h0 : 0 < i) (hn : n ≤ BIG) : wrap64 ((i : Int) - 1) = ((i - 1 : Nat) : Int) := by unfold wrap64; unfold BIG at hn; omega
theorem rd_nat {xs : List Int} {i : Nat} (h : i < xs.length) : rd xs (i : Int) = xs[i] := by unfold rd; simp [List.getD, h]
theorem getD_nat {α : Type} {xs : List α} {d : α} {i : Nat} (h : i < xs.length) : xs.getD (i : Int).toNat d = xs[i] := by simp [List.getD, h]
theorem getD_zero {α : Type} {xs : List α} {d : α} (h : 0 < xs.length) : xs.getD (0 : Int).toNat d = xs[0] := by simp [List.getD, h]
theorem drop_cons {α : Type} {xs : List α} {i : Nat} (h : i < xs.length) : xs.drop i = xs[i] :: xs.drop (i + 1) := List.drop_eq_getElem_cons h
theorem drop_end {α : Type} {xs : List α} {i : Nat} (h : xs.length ≤ i) : xs.drop i = [] := List.drop_of_length_le h
/-- A list filled from the front, by index. -/
theorem fill_step {α : Type} (ys zs : List α) (x : α) {i : Nat} (hi : i = ys.length) (hz : 0 < zs.length) : (ys ++ zs).set i x = (ys ++ [x]) ++ zs.drop 1 := by
  subst hi
  match zs, hz with
  | z :: zs, _ => simp
theorem set_id {α : Type} (xs : List α) (i : Nat) (h : i < xs.length) : xs.set i xs[i] = xs := by
  apply List.ext_getElem
  · simp
  · intro j h1 h2
    rw [List.getElem_set]
    split
    · rename_i e; subst e; rfl
    · rfl
theorem some_bind {α β : Type} (a : α) (f : α → Option β) : (some a).bind f = f a := rfl
theorem getD_at {α : Type} {xs : List α} {d : α} {i : Nat} (h : i < xs.length) : xs.getD i d = xs[i] := by simp [List.getD, h]
/-- All places from i on, below n. -/
def allFrom (n i : Nat) (p : Nat → Bool) : Bool := (List.range' i (n - i)).all p
theorem allFrom_end {n i : Nat} {p : Nat → Bool} (h : n ≤ i) : allFrom n i p = true := by
  unfold allFrom
  rw [show n - i = 0 by omega]; rfl
theorem allFrom_step {n i : Nat} {p : Nat → Bool} (h : i < n) : allFrom n i p = (p i && allFrom n (i + 1) p) := by
  unfold allFrom
  rw [show n - i = (n - (i + 1)) + 1 by omega, List.range'_succ, List.all_cons]
theorem allFrom_no {n i : Nat} {p : Nat → Bool} (h : i < n) (hp : p i = false) : allFrom n i p = false := by rw [allFrom_step h, hp, Bool.false_and]
theorem allFrom_yes {n i : Nat} {p : Nat → Bool} (h : i < n) (hp : p i = true) : allFrom n i p = allFrom n (i + 1) p := by rw [allFrom_step h, hp, Bool.true_and]
theorem allFrom_iff {n i : Nat} {p : Nat → Bool} : allFrom n i p = true ↔ ∀ j, i ≤ j → j < n → p j = true := by
  unfold allFrom
  rw [List.all_eq_true]
  constructor
  · intro h j h1 h2
    exact h j (by rw [List.mem_range'_1]; omega)
  · intro h j hj
    rw [List.mem_range'_1] at hj
    exact h j hj.1 (by omega)
theorem itd_pos {α : Type} {p : Prop} [Decidable p] (h : p) {a b : α} : (if decide p = true then a else b) = a := if_pos (decide_eq_true h)
theorem itd_neg {α : Type} {p : Prop} [Decidable p] (h : ¬ p) {a b : α} : (if decide p = true then a else b) = b := if_neg (by rw [decide_eq_false h]; decide)

/-! #### Robots -/
theorem szRobotS_f (l : List S64) (b : Int) (h : l.length ≤ 9223372036854775807) (h0 : 0 ≤ b) (h1 : b ≤ 1048576) : laws_szRobotS.f l b = some (if (l.length : Int) ≤ b then b - (l.length : Int) else -1) := by
  unfold laws_szRobotS.f
  rw [wrap_id (by omega) (by omega)]
  split <;> split <;> first | rfl | omega
def mkRobot (a : S64) : S62 := ⟨a.f0, a.f1, a.f2, a.f3, a.f4⟩
theorem toRobotS_l0 (xs : List S64) (hn : xs.length ≤ 1048576) : ∀ (d i : Nat) (ys zs : List S62), i + d = xs.length → ys.length = i → zs.length = d → ys = (xs.take i).map mkRobot →
    Ev (fun k => laws_toRobotS.l0 k xs (ys ++ zs) i) (xs.map mkRobot)
  | 0, i, ys, zs, h, hy, hz, e => Ev.unroll (by
      simp only [laws_toRobotS.l0]
      simp only [if_neg (show ¬ (i : Int) < xs.length by omega)]
      obtain rfl := List.length_eq_zero_iff.1 hz
      rw [e, List.take_of_length_le (by omega), List.append_nil]
      exact Ev.now _)
  | d + 1, i, ys, zs, h, hy, hz, e => Ev.unroll (by
      have hi : i < xs.length := by omega
      simp only [laws_toRobotS.l0, laws_toRobot.f, some_bind]
      simp only [if_pos (show (i : Int) < xs.length by omega), if_pos (show (0 : Int) ≤ i by omega), if_pos (show (i : Int) < (ys ++ zs).length by simp; omega), wrap_succ hi (by unfold BIG; omega), rd_T64, Int.toNat_natCast, getD_at hi]
      rw [fill_step ys zs _ hy.symm (by omega)]
      exact toRobotS_l0 xs hn d (i + 1) _ _ (by omega) (by simp; omega) (by simp; omega) (by rw [List.take_succ_eq_append_getElem hi, List.map_append, ← e]; rfl))
theorem toRobotS_f (l : List S64) (h : l.length ≤ 1048576) : Ev (fun k => laws_toRobotS.f k l) (l.map mkRobot) := by
  unfold laws_toRobotS.f
  simp only [if_pos (show (0 : Int) ≤ l.length by omega), if_pos (show (l.length : Int).toNat ≤ 7036874417766 by omega)]
  rw [Int.toNat_natCast]
  exact toRobotS_l0 l h l.length 0 [] _ (by omega) rfl (by simp) rfl
theorem eqRobot_f (r : S62) : laws_eqRobot.f r.f0 r.f1 r.f2 r.f3 r.f4 r.f0 r.f1 r.f2 r.f3 r.f4 = some true := by
  unfold laws_eqRobot.f
  simp
theorem eqRobotS_l0 (xs : List S62) (hn : xs.length ≤ BIG) : ∀ (d i : Nat), i + d = xs.length → Ev (fun k => laws_eqRobotS.l0 k xs xs i) true
  | 0, i, h => Ev.unroll (by
      simp only [laws_eqRobotS.l0]
      simp only [if_neg (show ¬ (i : Int) < xs.length by omega)]
      exact Ev.now _)
  | d + 1, i, h => Ev.unroll (by
      have hi : i < xs.length := by omega
      simp only [laws_eqRobotS.l0, eqRobot_f, some_bind]
      simp only [if_pos (show (i : Int) < xs.length by omega), if_pos (show (0 : Int) ≤ i by omega), wrap_succ hi hn, if_true]
      exact eqRobotS_l0 xs hn d (i + 1) (by omega))
theorem eqRobotS_f (l : List S62) (h : l.length ≤ BIG) : Ev (fun k => laws_eqRobotS.f k l l) true := by
  unfold laws_eqRobotS.f
  simp only [if_true]
  exact eqRobotS_l0 l h l.length 0 (by omega)

/-! #### Arrived -/
def restsB (r : S62) : Bool := if r.f2 = -1 then true else r.f1 == r.f2
theorem impl_rests_f (r : S62) : impl_rests.f r.f0 r.f1 r.f2 r.f3 r.f4 = some (restsB r) := by unfold impl_rests.f restsB; split <;> rfl
theorem spec_l9There_f (r : S62) : spec_l9There.f r.f0 r.f1 r.f2 r.f3 r.f4 = some (restsB r) := by unfold spec_l9There.f restsB; split <;> rfl
theorem spec_Arrived_l0 (xs : List S62) (hn : xs.length ≤ BIG) : ∀ (d i n : Nat), i + d = xs.length → n ≤ i → Ev (fun k => spec_Arrived.l0 k xs n i) ((n : Int) + ((xs.drop i).countP restsB : Nat))
  | 0, i, n, h, hni => Ev.unroll (by
      simp only [spec_Arrived.l0]
      simp only [if_neg (show ¬ (i : Int) < xs.length by omega)]
      exact Ev.fin (by rw [drop_end (by omega)]; simp))
  | d + 1, i, n, h, hni => Ev.unroll (by
      have hi : i < xs.length := by omega
      simp only [spec_Arrived.l0, spec_l9There_f, some_bind]
      simp only [if_pos (show (i : Int) < xs.length by omega), if_pos (show (0 : Int) ≤ i by omega), wrap_succ hi hn, wrap_succ (show n < xs.length by omega) hn, rd_T62, Int.toNat_natCast, getD_at hi]
      rw [drop_cons hi, List.countP_cons]
      by_cases h1 : restsB xs[i] = true
      · simp only [if_pos h1]
        rw [show (n : Int) + ((List.countP restsB (xs.drop (i + 1)) + 1 : Nat) : Int) = ((n + 1 : Nat) : Int) + ((xs.drop (i + 1)).countP restsB : Nat) by omega]
        exact spec_Arrived_l0 xs hn d (i + 1) (n + 1) (by omega) (by omega)
      · simp only [if_neg h1]
        exact spec_Arrived_l0 xs hn d (i + 1) n (by omega) (by omega))
theorem impl_Arrived_l0 (xs : List S62) (hn : xs.length ≤ BIG) : ∀ (d i n : Nat), i + d = xs.length → n ≤ i → Ev (fun k => impl_Arrived.l0 k n xs xs.length i) ((n : Int) + ((xs.drop i).countP restsB : Nat))
  | 0, i, n, h, hni => Ev.unroll (by
      simp only [impl_Arrived.l0]
      simp only [if_neg (show ¬ (i : Int) < xs.length by omega)]
      exact Ev.fin (by rw [drop_end (by omega)]; simp))
  | d + 1, i, n, h, hni => Ev.unroll (by
      have hi : i < xs.length := by omega
      simp only [impl_Arrived.l0, impl_rests_f, some_bind]
      simp only [if_pos (show (i : Int) < xs.length by omega), if_pos (show (0 : Int) ≤ i by omega), wrap_succ hi hn, wrap_succ (show n < xs.length by omega) hn, rd_T62, Int.toNat_natCast, getD_at hi]
      rw [drop_cons hi, List.countP_cons]
      by_cases h1 : restsB xs[i] = true
      · simp only [if_pos h1]
        rw [show (n : Int) + ((List.countP restsB (xs.drop (i + 1)) + 1 : Nat) : Int) = ((n + 1 : Nat) : Int) + ((xs.drop (i + 1)).countP restsB : Nat) by omega]
        exact impl_Arrived_l0 xs hn d (i + 1) (n + 1) (by omega) (by omega)
      · simp only [if_neg h1]
        exact impl_Arrived_l0 xs hn d (i + 1) n (by omega) (by omega))
theorem spec_Arrived_f (xs : List S62) (hn : xs.length ≤ BIG) : Ev (fun k => spec_Arrived.f k xs) ((xs.countP restsB : Nat) : Int) := by
  have := spec_Arrived_l0 xs hn xs.length 0 0 (by omega) (by omega)
  unfold spec_Arrived.f
  simpa using this
theorem impl_Arrived_f (xs : List S62) (hn : xs.length ≤ BIG) : Ev (fun k => impl_Arrived.f k xs) ((xs.countP restsB : Nat) : Int) := by
  have := impl_Arrived_l0 xs hn xs.length 0 0 (by omega) (by omega)
  unfold impl_Arrived.f
  simpa using this

/-! #### FnExactArrived -/
theorem FnExactArrived : ∀ (l0 : List (S64)), (l0.length ≤ 9223372036854775807 ∧ ∀ y0 ∈ l0, ((-9223372036854775808 ≤ y0.f0 ∧ y0.f0 ≤ 9223372036854775807) ∧ (-9223372036854775808 ≤ y0.f1 ∧ y0.f1 ≤ 9223372036854775807) ∧ (-9223372036854775808 ≤ y0.f2 ∧ y0.f2 ≤ 9223372036854775807) ∧ True ∧ (-9223372036854775808 ≤ y0.f4 ∧ y0.f4 ≤ 9223372036854775807))) → ∃ k, laws_FnExactArrived.f k l0 = some true := by
  intro l ⟨hl, _⟩
  refine Ev.rounds ?_
  unfold laws_FnExactArrived.f
  by_cases hb : (l.length : Int) ≤ 1048576
  · have hB : (l.map mkRobot).length ≤ BIG := by rw [List.length_map]; unfold BIG; omega
    simp only [szRobotS_f l _ hl (show (0 : Int) ≤ 1048576 by omega) (by omega), if_pos hb, some_bind, if_neg (show ¬ (1048576 - (l.length : Int)) < 0 by omega)]
    refine Ev.bind (toRobotS_f l (by omega)) (Ev.bind (spec_Arrived_f _ hB) (Ev.bind (toRobotS_f l (by omega)) (Ev.bind (impl_Arrived_f _ hB) ?_)))
    simp only [if_true]
    exact Ev.bind (toRobotS_f l (by omega)) (Ev.bind (eqRobotS_f _ hB) (Ev.now _))
  · simp only [szRobotS_f l _ hl (show (0 : Int) ≤ 1048576 by omega) (by omega), if_neg hb, some_bind]
    exact Ev.now _

end Go.Proofs.Ytnkjfghldeakdaa.Pure
