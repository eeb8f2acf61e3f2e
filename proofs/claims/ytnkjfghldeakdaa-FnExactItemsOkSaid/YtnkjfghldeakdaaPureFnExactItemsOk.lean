/- Proved here: the law FnExactItemsOk, over numbers and lists: for all arguments it returns true; no condition. -/
import Derived.Test.YtnkjfghldeakdaaPFnExactItemsOkx4
namespace Go.Proofs.Ytnkjfghldeakdaa.Pure
open Go.RowKit Go.Proofs.Ytnkjfghldeakdaa.PFnExactItemsOk Go.Proofs.YtnkjfghldeakdaaW.PrintWords Go.Proofs.YtnkjfghldeakdaaW.PrintLast
set_option linter.unusedVariables false
set_option linter.unusedSimpArgs false

/-! #### base -/
/-! Words of this session: rounds, whole numbers in their bounds, reading by index. -/
theorem Ev.unroll {α : Type} {g : Nat → Option α} {r : α} (h : Ev (fun k => g (k + 1)) r) : Ev g r := Ev.step (fun _ => rfl) h
theorem Ev.const {α : Type} {x : Option α} {r : α} (h : x = some r) : Ev (fun _ => x) r := ⟨0, fun _ _ => h⟩
theorem Ev.fin {α : Type} {r s : α} (h : r = s) : Ev (fun _ => some r) s := by rw [h]; exact Ev.now _
theorem wrap_id {x : Int} (h0 : -9223372036854775808 ≤ x) (h1 : x ≤ 9223372036854775807) : wrap64 x = x := by unfold wrap64; omega
/-- The bound of all lengths here. -/
abbrev BIG : Nat := 4611686018427387904
theorem wrap_succ {i n : Nat} (h : i < n) (hn : n ≤ BIG) : wrap64 ((i : Int) + 1) = ((i + 1 : Nat) : Int) := by unfold wrap64; unfold BIG at hn; omega
theorem wrap_pred {i n : Nat} (h : i < n) (h0 : 0 < i) (hn : n ≤ BIG) : wrap64 ((i : Int) - 1) = ((i - 1 : Nat) : Int) := by unfold wrap64; unfold BIG at hn; omega
theorem rd_nat {xs : List Int} {i : Nat} (h : i < xs.length) : rd xs (i : Int) = xs[i] := by unfold rd; simp [List.getD, h]
theorem getD_nat {α : Type} {xs : List α} {d : α} {i : Nat} (h : i < xs.length) : xs.getD (i : Int).toNat d = xs[i] := by simp [List.getD, h]
theorem getD_zero {α : Type} {xs : List α} {d : α} (h : 0 < xs.length) : xs.getD (0 : Int).toNat d = xs[0] := by simp [List.getD, h]
theorem drop_cons {α : Type} {xs : List α} {i : Nat} (h : i < xs.length) : xs.drop i = xs[i] :: xs.drop (i + 1) := List.drop_eq_getElem_cons h
theorem drop_end {α : Type} {xs : List α} {i : Nat} (h : xs.length ≤ i) : xs.drop i = [] := List.drop_of_length_le h
/-- A list filled from the front, by index. -/
theorem fill_step {α : Type} (ys zs : List α) (x : α) {i : Nat} (hi : i = ys.length) (hz : 0 < zs.length) : (ys ++ zs).set i x = (ys ++ [x]) ++ zs.drop 1 := by
  subst hi
  match zs, hz with
  | z :: zs, _ => simp
theorem set_id {α : Type} (xs : List α) (i : Nat) (h : i < xs.length) : xs.set i xs[i] = xs := by
  apply List.ext_getElem
  · simp
  · intro j h1 h2
    rw [List.getElem_set]
    split
    · rename_i e; subst e; rfl
    · rfl
theorem some_bind {α β : Type} (a : α) (f : α → Option β) : (some a).bind f = f a := rfl
theorem getD_at {α : Type} {xs : List α} {d : α} {i : Nat} (h : i < xs.length) : xs.getD i d = xs[i] := by simp [List.getD, h]
/-- All places from i on, below n. -/
def allFrom (n i : Nat) (p : Nat → Bool) : Bool := (List.range' i (n - i)).all p
theorem allFrom_end {n i : Nat} {p : Nat → Bool} (h : n ≤ i) : allFrom n i p = true := by
  unfold allFrom
  rw [show n - i = 0 by omega]; rfl
theorem allFrom_step {n i : Nat} {p : Nat → Bool} (h : i < n) : allFrom n i p = (p i && allFrom n (i + 1) p) := by
  unfold allFrom
  rw [show n - i = (n - (i + 1)) + 1 by omega, List.range'_succ, List.all_cons]
theorem allFrom_no {n i : Nat} {p : Nat → Bool} (h : i < n) (hp : p i = false) : allFrom n i p = false := by rw [allFrom_step h, hp, Bool.false_and]
theorem allFrom_yes {n i : Nat} {p : Nat → Bool} (h : i < n) (hp : p i = true) : allFrom n i p = allFrom n (i + 1) p := by rw [allFrom_step h, hp, Bool.true_and]
theorem allFrom_iff {n i : Nat} {p : Nat → Bool} : allFrom n i p = true ↔ ∀ j, i ≤ j → j < n → p j = true := by
  unfold allFrom
  rw [List.all_eq_true]
  constructor
  · intro h j h1 h2
    exact h j (by rw [List.mem_range'_1]; omega)
  · intro h j hj
    rw [List.mem_range'_1] at hj
    exact h j hj.1 (by omega)
theorem itd_pos {α : Type} {p : Prop} [Decidable p] (h : p) {a b : α} : (if decide p = true then a else b) = a := if_pos (decide_eq_true h)
theorem itd_neg {α : Type} {p : Prop} [Decidable p] (h : ¬ p) {a b : α} : (if decide p = true then a else b) = b := if_neg (by rw [decide_eq_false h]; decide)

/-! #### In -/
/-- Between two bounds. -/
def inB (a b c : Int) : Bool := decide (b ≤ a ∧ a ≤ c)
theorem inB_iff {a b c : Int} : inB a b c = true ↔ b ≤ a ∧ a ≤ c := by unfold inB; exact decide_eq_true_iff
theorem inB_no {a b c : Int} : inB a b c = false ↔ ¬ (b ≤ a ∧ a ≤ c) := by rw [← inB_iff]; simp
theorem impl_in_f (a b c : Int) : impl_in.f a b c = some (inB a b c) := by
  unfold impl_in.f inB
  by_cases h : b ≤ a <;> by_cases h2 : a ≤ c <;> simp [h, h2]
theorem spec_l1In_f (a b c : Int) : spec_l1In.f a b c = some (inB a b c) := by
  unfold spec_l1In.f inB
  by_cases h : b ≤ a <;> by_cases h2 : a ≤ c <;> simp [h, h2]

/-! #### Items -/
theorem szItemS_f (l : List S58) (h : l.length ≤ 9223372036854775807) : laws_szItemS.f l 1048576 = some (if l.length ≤ 1048576 then 1048576 - (l.length : Int) else -1) := by
  unfold laws_szItemS.f
  rw [wrap_id (by omega) (by omega)]
  split <;> split <;> first | rfl | omega
def mkItem (a : S58) : S56 := ⟨a.f0, a.f1⟩
theorem toItemS_l0 (xs : List S58) (hn : xs.length ≤ 1048576) : ∀ (d i : Nat) (ys zs : List S56), i + d = xs.length → ys.length = i → zs.length = d → ys = (xs.take i).map mkItem →
    Ev (fun k => laws_toItemS.l0 k xs (ys ++ zs) i) (xs.map mkItem)
  | 0, i, ys, zs, h, hy, hz, e => Ev.unroll (by
      simp only [laws_toItemS.l0]
      simp only [if_neg (show ¬ (i : Int) < xs.length by omega)]
      obtain rfl := List.length_eq_zero_iff.1 hz
      rw [e, List.take_of_length_le (by omega), List.append_nil]
      exact Ev.now _)
  | d + 1, i, ys, zs, h, hy, hz, e => Ev.unroll (by
      have hi : i < xs.length := by omega
      simp only [laws_toItemS.l0, laws_toItem.f, some_bind]
      simp only [if_pos (show (i : Int) < xs.length by omega), if_pos (show (0 : Int) ≤ i by omega), if_pos (show (i : Int) < (ys ++ zs).length by simp; omega), wrap_succ hi (by unfold BIG; omega), rd_T58, Int.toNat_natCast, getD_at hi]
      rw [fill_step ys zs _ hy.symm (by omega)]
      exact toItemS_l0 xs hn d (i + 1) _ _ (by omega) (by simp; omega) (by simp; omega) (by rw [List.take_succ_eq_append_getElem hi, List.map_append, ← e]; rfl))
theorem toItemS_f (l : List S58) (h : l.length ≤ 1048576) : Ev (fun k => laws_toItemS.f k l) (l.map mkItem) := by
  unfold laws_toItemS.f
  simp only [if_pos (show (0 : Int) ≤ l.length by omega), if_pos (show (l.length : Int).toNat ≤ 17592186044416 by omega)]
  rw [Int.toNat_natCast]
  exact toItemS_l0 l h l.length 0 [] _ (by omega) rfl (by simp) rfl
theorem eqItem_f (a b c d : Int) : laws_eqItem.f a b c d = some (decide (a = c ∧ b = d)) := by
  unfold laws_eqItem.f
  by_cases h : a = c <;> by_cases h2 : b = d <;> simp [h, h2]
theorem eqItemS_l0 (xs : List S56) (hn : xs.length ≤ 1048576) : ∀ (d i : Nat), i + d = xs.length → Ev (fun k => laws_eqItemS.l0 k xs xs i) true
  | 0, i, h => Ev.unroll (by
      simp only [laws_eqItemS.l0]
      simp only [if_neg (show ¬ (i : Int) < xs.length by omega)]
      exact Ev.now _)
  | d + 1, i, h => Ev.unroll (by
      have hi : i < xs.length := by omega
      simp only [laws_eqItemS.l0, eqItem_f, some_bind, and_self, decide_true]
      simp only [if_pos (show (i : Int) < xs.length by omega), if_pos (show (0 : Int) ≤ i by omega), wrap_succ hi (show _ ≤ BIG by unfold BIG; omega), if_true]
      exact eqItemS_l0 xs hn d (i + 1) (by omega))
theorem eqItemS_f (l : List S56) (h : l.length ≤ 1048576) : Ev (fun k => laws_eqItemS.f k l l) true := by
  unfold laws_eqItemS.f
  simp only [if_true]
  exact eqItemS_l0 l h l.length 0 (by omega)

/-! #### ItemsOk -/
/-- What is asked of the item at a place. -/
def itemAt (xs : List S56) (j : Nat) : Bool :=
  inB (xs.getD j z56).f0 1 50 && inB (xs.getD j z56).f1 1 1000 && (j == 0 || decide ((xs.getD (j - 1) z56).f0 < (xs.getD j z56).f0))
theorem spec_ItemsOk_l0 (xs : List S56) (hn : xs.length ≤ 1048576) : ∀ (d i : Nat), i + d = xs.length → Ev (fun k => spec_ItemsOk.l0 k xs i) (allFrom xs.length i (itemAt xs) && decide (xs.length ≤ 6))
  | 0, i, h => Ev.unroll (by
      simp only [spec_ItemsOk.l0]
      simp only [if_neg (show ¬ (i : Int) < xs.length by omega)]
      exact Ev.fin (by rw [allFrom_end (by omega), Bool.true_and]; exact decide_eq_decide.2 (by omega)))
  | d + 1, i, h => Ev.unroll (by
      have hi : i < xs.length := by omega
      have ih := spec_ItemsOk_l0 xs hn d (i + 1) (by omega)
      simp only [spec_ItemsOk.l0, spec_l1In_f, some_bind]
      simp only [if_pos (show (i : Int) < xs.length by omega), if_pos (show (0 : Int) ≤ i by omega), wrap_succ hi (show _ ≤ BIG by unfold BIG; omega), rd_T56, Int.toNat_natCast]
      by_cases h1 : inB (xs.getD i z56).f0 1 50 = true
      · simp only [if_pos h1]
        by_cases h2 : inB (xs.getD i z56).f1 1 1000 = true
        · simp only [if_pos h2]
          by_cases h3 : 0 < i
          · simp only [if_pos (show (i : Int) > 0 by omega), wrap_pred hi h3 (show _ ≤ BIG by unfold BIG; omega), if_pos (show (0 : Int) ≤ ((i - 1 : Nat) : Int) by omega), if_pos (show ((i - 1 : Nat) : Int) < xs.length by omega), Int.toNat_natCast]
            by_cases h4 : (xs.getD (i - 1) z56).f0 ≥ (xs.getD i z56).f0
            · simp only [if_pos h4]
              exact Ev.fin (by rw [allFrom_no hi (by unfold itemAt; rw [decide_eq_false (show ¬ (xs.getD (i - 1) z56).f0 < (xs.getD i z56).f0 by omega)]; simp [show i ≠ 0 by omega])]; rfl)
            · simp only [if_neg h4]
              rw [allFrom_yes hi (by unfold itemAt; simp only [h1, h2, decide_eq_true (show (xs.getD (i - 1) z56).f0 < (xs.getD i z56).f0 by omega), Bool.or_true, Bool.and_true])]
              exact ih
          · simp only [if_neg (show ¬ (i : Int) > 0 by omega)]
            rw [allFrom_yes hi (by have e0 : i = 0 := (by omega); subst e0; unfold itemAt; rw [h1, h2]; rfl)]
            exact ih
        · simp only [if_neg h2]
          exact Ev.fin (by rw [allFrom_no hi (by rw [Bool.not_eq_true] at h2; unfold itemAt; rw [h2]; simp)]; rfl)
      · simp only [if_neg h1]
        exact Ev.fin (by rw [allFrom_no hi (by rw [Bool.not_eq_true] at h1; unfold itemAt; rw [h1]; simp)]; rfl))
def itemsOk (xs : List S56) : Bool := allFrom xs.length 0 (itemAt xs) && decide (xs.length ≤ 6)
theorem spec_ItemsOk_f (xs : List S56) (hn : xs.length ≤ 1048576) : Ev (fun k => spec_ItemsOk.f k xs) (itemsOk xs) := spec_ItemsOk_l0 xs hn xs.length 0 (by omega)
theorem impl_ItemsOk_l0 (xs : List S56) (hn : xs.length ≤ 1048576) : ∀ (d i : Nat), i + d = xs.length → Ev (fun k => impl_ItemsOk.l0 k xs xs xs.length i) (allFrom xs.length i (itemAt xs) && decide (xs.length ≤ 6))
  | 0, i, h => Ev.unroll (by
      simp only [impl_ItemsOk.l0]
      simp only [if_neg (show ¬ (i : Int) < xs.length by omega)]
      exact Ev.fin (by rw [allFrom_end (by omega), Bool.true_and]; exact decide_eq_decide.2 (by omega)))
  | d + 1, i, h => Ev.unroll (by
      have hi : i < xs.length := by omega
      have ih := impl_ItemsOk_l0 xs hn d (i + 1) (by omega)
      simp only [impl_ItemsOk.l0, impl_in_f, some_bind]
      simp only [if_pos (show (i : Int) < xs.length by omega), if_pos (show (0 : Int) ≤ i by omega), wrap_succ hi (show _ ≤ BIG by unfold BIG; omega), rd_T56, Int.toNat_natCast]
      by_cases h1 : inB (xs.getD i z56).f0 1 50 = true
      · simp only [if_pos h1]
        by_cases h2 : inB (xs.getD i z56).f1 1 1000 = true
        · simp only [if_pos h2]
          by_cases h3 : 0 < i
          · simp only [if_pos (show (i : Int) > 0 by omega), wrap_pred hi h3 (show _ ≤ BIG by unfold BIG; omega), if_pos (show (0 : Int) ≤ ((i - 1 : Nat) : Int) by omega), if_pos (show ((i - 1 : Nat) : Int) < xs.length by omega), Int.toNat_natCast]
            by_cases h4 : (xs.getD (i - 1) z56).f0 ≥ (xs.getD i z56).f0
            · simp only [if_pos h4]
              exact Ev.fin (by rw [allFrom_no hi (by unfold itemAt; rw [decide_eq_false (show ¬ (xs.getD (i - 1) z56).f0 < (xs.getD i z56).f0 by omega)]; simp [show i ≠ 0 by omega])]; rfl)
            · simp only [if_neg h4]
              rw [allFrom_yes hi (by unfold itemAt; simp only [h1, h2, decide_eq_true (show (xs.getD (i - 1) z56).f0 < (xs.getD i z56).f0 by omega), Bool.or_true, Bool.and_true])]
              exact ih
          · simp only [if_neg (show ¬ (i : Int) > 0 by omega)]
            rw [allFrom_yes hi (by have e0 : i = 0 := (by omega); subst e0; unfold itemAt; rw [h1, h2]; rfl)]
            exact ih
        · simp only [if_neg h2]
          exact Ev.fin (by rw [allFrom_no hi (by rw [Bool.not_eq_true] at h2; unfold itemAt; rw [h2]; simp)]; rfl)
      · simp only [if_neg h1]
        exact Ev.fin (by rw [allFrom_no hi (by rw [Bool.not_eq_true] at h1; unfold itemAt; rw [h1]; simp)]; rfl))
theorem impl_ItemsOk_f (xs : List S56) (hn : xs.length ≤ 1048576) : Ev (fun k => impl_ItemsOk.f k xs) (itemsOk xs) := impl_ItemsOk_l0 xs hn xs.length 0 (by omega)

/-! #### FnExactItemsOk -/
theorem FnExactItemsOk : ∀ (l0 : List (S58)), (l0.length ≤ 9223372036854775807 ∧ ∀ y0 ∈ l0, ((-9223372036854775808 ≤ y0.f0 ∧ y0.f0 ≤ 9223372036854775807) ∧ (-9223372036854775808 ≤ y0.f1 ∧ y0.f1 ≤ 9223372036854775807))) → ∃ k, laws_FnExactItemsOk.f k l0 = some true := by
  intro l ⟨hl, hr⟩
  refine Ev.rounds ?_
  unfold laws_FnExactItemsOk.f
  by_cases h : l.length ≤ 1048576
  · simp only [szItemS_f l hl, if_pos h, some_bind, if_neg (show ¬ (1048576 - (l.length : Int)) < 0 by omega)]
    have hm : (l.map mkItem).length ≤ 1048576 := by simpa using h
    refine Ev.bind (toItemS_f l h) (Ev.bind (spec_ItemsOk_f _ hm) (Ev.bind (toItemS_f l h) (Ev.bind (impl_ItemsOk_f _ hm) ?_)))
    simp only [bne_self_eq_false, Bool.false_eq_true, if_false]
    refine Ev.bind (toItemS_f l h) (Ev.bind (eqItemS_f _ hm) ?_)
    exact Ev.now _
  · simp only [szItemS_f l hl, if_neg h, some_bind]
    exact Ev.now _

end Go.Proofs.Ytnkjfghldeakdaa.Pure
