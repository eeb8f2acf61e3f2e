/- Proved here: the law FnExactNear, over numbers and lists: for all arguments it returns true; no condition. -/
import Derived.Test.YtjeonneegmhcdaaPFnExactNearx5
namespace Go.Proofs.Ytjeonneegmhcdaa.Pure
open Go.RowKit Go.Proofs.Ytjeonneegmhcdaa.PFnExactNear Go.Proofs.YtjeonneegmhcdaaW.PrintWords Go.Proofs.YtjeonneegmhcdaaW.PrintLast
set_option linter.unusedVariables false
set_option linter.unusedSimpArgs false

/-! #### base -/
/-! Words of this session: rounds, whole numbers in their bounds, reading by index. -/
theorem Ev.unroll {α : Type} {g : Nat → Option α} {r : α} (h : Ev (fun k => g (k + 1)) r) : Ev g r := Ev.step (fun _ => rfl) h
theorem Ev.const {α : Type} {x : Option α} {r : α} (h : x = some r) : Ev (fun _ => x) r := ⟨0, fun _ _ => h⟩
theorem Ev.fin {α : Type} {r s : α} (h : r = s) : Ev (fun _ => some r) s := by rw [h]; exact Ev.now _
theorem wrap_id {x : Int} (h0 : -9223372036854775808 ≤ x) (h1 : x ≤ 9223372036854775807) : wrap64 x = x := by unfold wrap64; omega
/-- The bound of all lengths here. -/
abbrev BIG : Nat := 4611686018427387904
theorem wrap_succ {i n : Nat} (h : i < n) (hn : n ≤ BIG) : wrap64 ((i : Int) + 1) = ((i + 1 : Nat) : Int) := by unfold wrap64; unfold BIG at hn; omega
theorem wrap_pred {i n : Nat} (h : i < n) (h0 : 0 < i) (hn : n ≤ BIG) : wrap64 ((i : Int) - 1) = ((i - 1 : Nat) : Int) := by unfold wrap64; unfold BIG at hn; omega
theorem rd_nat {xs : List Int} {i : Nat} (h : i < xs.length) : rd xs (i : Int) = xs[i] := by unfold rd; simp [List.getD, h]
theorem getD_nat {α : Type} {xs : List α} {d : α} {i : Nat} (h : i < xs.length) : xs.getD (i : Int).toNat d = xs[i] := by simp [List.getD, h]
theorem getD_zero {α : Type} {xs : List α} {d : α} (h : 0 < xs.length) : xs.getD (0 : Int).toNat d = xs[0] := by simp [List.getD, h]
theorem drop_cons {α : Type} {xs : List α} {i : Nat} (h : i < xs.length) : xs.drop i = xs[i] :: xs.drop (i + 1) := List.drop_eq_getElem_cons h
theorem drop_end {α : Type} {xs : List α} {i : Nat} (h : xs.length ≤ i) : xs.drop i = [] := List.drop_of_length_le h
/-- A list filled from the front, by index. -/
theorem fill_step {α : Type} (ys zs : List α) (x : α) {i : Nat} (hi : i = ys.length) (hz : 0 < zs.length) : (ys ++ zs).set i x = (ys ++ [x]) ++ zs.drop 1 := by
  subst hi
  match zs, hz with
  | z :: zs, _ => simp
theorem set_id {α : Type} (xs : List α) (i : Nat) (h : i < xs.length) : xs.set i xs[i] = xs := by
  apply List.ext_getElem
  · simp
  · intro j h1 h2
    rw [List.getElem_set]
    split
    · rename_i e; subst e; rfl
    · rfl
theorem some_bind {α β : Type} (a : α) (f : α → Option β) : (some a).bind f = f a := rfl
theorem getD_at {α : Type} {xs : List α} {d : α} {i : Nat} (h : i < xs.length) : xs.getD i d = xs[i] := by simp [List.getD, h]
/-- All places from i on, below n. -/
def allFrom (n i : Nat) (p : Nat → Bool) : Bool := (List.range' i (n - i)).all p
theorem allFrom_end {n i : Nat} {p : Nat → Bool} (h : n ≤ i) : allFrom n i p = true := by
  unfold allFrom
  rw [show n - i = 0 by omega]; rfl
theorem allFrom_step {n i : Nat} {p : Nat → Bool} (h : i < n) : allFrom n i p = (p i && allFrom n (i + 1) p) := by
  unfold allFrom
  rw [show n - i = (n - (i + 1)) + 1 by omega, List.range'_succ, List.all_cons]
theorem allFrom_no {n i : Nat} {p : Nat → Bool} (h : i < n) (hp : p i = false) : allFrom n i p = false := by rw [allFrom_step h, hp, Bool.false_and]
theorem allFrom_yes {n i : Nat} {p : Nat → Bool} (h : i < n) (hp : p i = true) : allFrom n i p = allFrom n (i + 1) p := by rw [allFrom_step h, hp, Bool.true_and]
theorem allFrom_iff {n i : Nat} {p : Nat → Bool} : allFrom n i p = true ↔ ∀ j, i ≤ j → j < n → p j = true := by
  unfold allFrom
  rw [List.all_eq_true]
  constructor
  · intro h j h1 h2
    exact h j (by rw [List.mem_range'_1]; omega)
  · intro h j hj
    rw [List.mem_range'_1] at hj
    exact h j hj.1 (by omega)
theorem itd_pos {α : Type} {p : Prop} [Decidable p] (h : p) {a b : α} : (if decide p = true then a else b) = a := if_pos (decide_eq_true h)
theorem itd_neg {α : Type} {p : Prop} [Decidable p] (h : ¬ p) {a b : α} : (if decide p = true then a else b) = b := if_neg (by rw [decide_eq_false h]; decide)
/-- The places from i on, below n, that p holds of. -/
def filtFrom (n i : Nat) (p : Nat → Bool) : List Int := ((List.range' i (n - i)).filter p).map (fun j : Nat => (j : Int))
theorem filtFrom_end {n i : Nat} {p : Nat → Bool} (h : n ≤ i) : filtFrom n i p = [] := by
  unfold filtFrom
  rw [show n - i = 0 by omega]; rfl
theorem filtFrom_yes {n i : Nat} {p : Nat → Bool} (h : i < n) (hp : p i = true) : filtFrom n i p = (i : Int) :: filtFrom n (i + 1) p := by
  unfold filtFrom
  rw [show n - i = (n - (i + 1)) + 1 by omega, List.range'_succ, List.filter_cons, if_pos hp, List.map_cons]
theorem filtFrom_no {n i : Nat} {p : Nat → Bool} (h : i < n) (hp : p i = false) : filtFrom n i p = filtFrom n (i + 1) p := by
  unfold filtFrom
  rw [show n - i = (n - (i + 1)) + 1 by omega, List.range'_succ, List.filter_cons, if_neg (by rw [hp]; decide)]
theorem filtFrom_le {n i : Nat} {p : Nat → Bool} : (filtFrom n i p).length ≤ n - i := by
  unfold filtFrom
  rw [List.length_map]
  exact Nat.le_trans (List.length_filter_le _ _) (by simp)
theorem mem_filtFrom {n i : Nat} {p : Nat → Bool} {x : Int} : x ∈ filtFrom n i p ↔ ∃ j : Nat, i ≤ j ∧ j < n ∧ p j = true ∧ x = (j : Int) := by
  unfold filtFrom
  simp only [List.mem_map, List.mem_filter, List.mem_range'_1]
  constructor
  · rintro ⟨j, ⟨⟨h1, h2⟩, h3⟩, rfl⟩; exact ⟨j, h1, by omega, h3, rfl⟩
  · rintro ⟨j, h1, h2, h3, rfl⟩; exact ⟨j, ⟨⟨h1, by omega⟩, h3⟩, rfl⟩
theorem wrap_sc {i : Nat} (h : i < 9223372036854775807) : wrap64 ((i : Int) + 1) = ((i + 1 : Nat) : Int) := by unfold wrap64; omega
theorem rd_nat' {xs : List Int} {i : Nat} : rd xs (i : Int) = xs.getD i 0 := by unfold rd; rw [Int.toNat_natCast]
theorem getD_zero' {α : Type} {xs : List α} {d : α} : xs.getD (0 : Int).toNat d = xs.getD 0 d := rfl
theorem Bool.ite_tf (b : Bool) : (if b = true then true else false) = b := by cases b <;> rfl
theorem ev_ite {α : Type} {c : Prop} [Decidable c] {g h : Nat → Option α} {r s : α} (h1 : c → Ev g r) (h2 : ¬ c → Ev h s) : Ev (fun k => if c then g k else h k) (if c then r else s) := by
  by_cases hc : c
  · simp only [if_pos hc]; exact h1 hc
  · simp only [if_neg hc]; exact h2 hc

/-! #### Ints -/
theorem szIntS_f (l : List Int) (b : Int) (h : l.length ≤ 9223372036854775807) (h0 : 0 ≤ b) (h1 : b ≤ 1048576) : laws_szIntS.f l b = some (if (l.length : Int) ≤ b then b - (l.length : Int) else -1) := by
  unfold laws_szIntS.f
  rw [wrap_id (by omega) (by omega)]
  split <;> split <;> first | rfl | omega
theorem toIntS_l0 (xs : List Int) (hn : xs.length ≤ 1048576) : ∀ (d i : Nat) (ys zs : List Int), i + d = xs.length → ys.length = i → zs.length = d → ys = xs.take i → Ev (fun k => laws_toIntS.l0 k xs (ys ++ zs) i) xs
  | 0, i, ys, zs, h, hy, hz, e => Ev.unroll (by
      simp only [laws_toIntS.l0]
      simp only [if_neg (show ¬ (i : Int) < xs.length by omega)]
      obtain rfl := List.length_eq_zero_iff.1 hz
      rw [e, List.take_of_length_le (by omega), List.append_nil]
      exact Ev.now _)
  | d + 1, i, ys, zs, h, hy, hz, e => Ev.unroll (by
      have hi : i < xs.length := by omega
      simp only [laws_toIntS.l0]
      simp only [if_pos (show (i : Int) < xs.length by omega), if_pos (show (0 : Int) ≤ i by omega), if_pos (show (i : Int) < (ys ++ zs).length by simp; omega), wrap_succ hi (by unfold BIG; omega), rd_nat hi, Int.toNat_natCast]
      rw [fill_step ys zs _ hy.symm (by omega)]
      exact toIntS_l0 xs hn d (i + 1) _ _ (by omega) (by simp; omega) (by simp; omega) (by rw [List.take_succ_eq_append_getElem hi, ← e]))
theorem toIntS_f (l : List Int) (h : l.length ≤ 1048576) : Ev (fun k => laws_toIntS.f k l) l := by
  unfold laws_toIntS.f
  simp only [if_pos (show (0 : Int) ≤ l.length by omega), if_pos (show (l.length : Int).toNat ≤ 35184372088832 by omega)]
  rw [Int.toNat_natCast]
  exact toIntS_l0 l h l.length 0 [] _ (by omega) rfl (by simp) rfl

/-! #### EqInts -/
theorem eqIntS_l0 (xs : List Int) (hn : xs.length ≤ BIG) : ∀ (d i : Nat), i + d = xs.length → Ev (fun k => laws_eqIntS.l0 k xs xs i) true
  | 0, i, h => Ev.unroll (by
      simp only [laws_eqIntS.l0]
      simp only [if_neg (show ¬ (i : Int) < xs.length by omega)]
      exact Ev.now _)
  | d + 1, i, h => Ev.unroll (by
      have hi : i < xs.length := by omega
      simp only [laws_eqIntS.l0]
      simp only [if_pos (show (i : Int) < xs.length by omega), if_pos (show (0 : Int) ≤ i by omega), wrap_succ hi hn, if_true]
      exact eqIntS_l0 xs hn d (i + 1) (by omega))
theorem eqIntS_f (l : List Int) (h : l.length ≤ BIG) : Ev (fun k => laws_eqIntS.f k l l) true := by
  unfold laws_eqIntS.f
  simp only [if_true]
  exact eqIntS_l0 l h l.length 0 (by omega)

/-! #### FloorArg -/
theorem szFloor_f (w h : Int) (l : List Int) (b : Int) (hl : l.length ≤ 9223372036854775807) (h0 : 0 ≤ b) (h1 : b ≤ 1048576) : laws_szFloor.f w h l b = some (if (l.length : Int) ≤ b then b - (l.length : Int) else -1) := by
  unfold laws_szFloor.f
  rw [szIntS_f l b hl h0 h1, some_bind]
  split <;> split <;> first | rfl | omega
theorem toFloor_f (w h : Int) (l : List Int) (hl : l.length ≤ 1048576) : Ev (fun k => laws_toFloor.f k w h l) (w, h, l) := by
  unfold laws_toFloor.f
  exact Ev.bind (toIntS_f l hl) (Ev.now _)
theorem eqFloor_f (w h : Int) (l : List Int) (hl : l.length ≤ BIG) : Ev (fun k => laws_eqFloor.f k w h l w h l) true := by
  unfold laws_eqFloor.f
  simp only [if_true]
  exact Ev.bind (eqIntS_f l hl) (Ev.now _)

/-! #### In -/
/-- Between two bounds. -/
def inB (a b c : Int) : Bool := decide (b ≤ a ∧ a ≤ c)
theorem inB_iff {a b c : Int} : inB a b c = true ↔ b ≤ a ∧ a ≤ c := by unfold inB; exact decide_eq_true_iff
theorem inB_no {a b c : Int} : inB a b c = false ↔ ¬ (b ≤ a ∧ a ≤ c) := by rw [← inB_iff]; simp
theorem impl_in_f (a b c : Int) : impl_in.f a b c = some (inB a b c) := by
  unfold impl_in.f inB
  by_cases h : b ≤ a <;> by_cases h2 : a ≤ c <;> simp [h, h2]
theorem spec_l1In_f (a b c : Int) : spec_l1In.f a b c = some (inB a b c) := by
  unfold spec_l1In.f inB
  by_cases h : b ≤ a <;> by_cases h2 : a ≤ c <;> simp [h, h2]

/-! #### FloorOk -/
def kindsOk (cs : List Int) (i : Nat) : Bool := allFrom cs.length i (fun j => inB (cs.getD j 0) 0 4)
def floorOk (w h : Int) (cs : List Int) : Bool := inB w 1 10 && inB h 1 10 && decide ((cs.length : Int) = w * h) && kindsOk cs 0
theorem spec_FloorOk_l0 (w h : Int) (cs : List Int) (hn : cs.length ≤ BIG) : ∀ (d i : Nat), i + d = cs.length → Ev (fun k => spec_FloorOk.l0 k i w h cs) (kindsOk cs i)
  | 0, i, e => Ev.unroll (by
      simp only [spec_FloorOk.l0]
      simp only [if_neg (show ¬ (i : Int) < cs.length by omega)]
      exact Ev.fin (allFrom_end (by omega)).symm)
  | d + 1, i, e => Ev.unroll (by
      have hi : i < cs.length := by omega
      simp only [spec_FloorOk.l0, spec_l1In_f, some_bind]
      simp only [if_pos (show (i : Int) < cs.length by omega), if_pos (show (0 : Int) ≤ i by omega), wrap_succ hi hn, rd, Int.toNat_natCast]
      by_cases h1 : inB (cs.getD i 0) 0 4 = true
      · simp only [if_pos h1]
        rw [show kindsOk cs i = kindsOk cs (i + 1) from allFrom_yes hi h1]
        exact spec_FloorOk_l0 w h cs hn d (i + 1) (by omega)
      · simp only [if_neg h1]
        exact Ev.fin (allFrom_no hi (by simpa using h1)).symm)
theorem impl_FloorOk_l0 (cs : List Int) (hn : cs.length ≤ BIG) : ∀ (d i : Nat), i + d = cs.length → Ev (fun k => impl_FloorOk.l0 k cs cs.length i) (kindsOk cs i)
  | 0, i, e => Ev.unroll (by
      simp only [impl_FloorOk.l0]
      simp only [if_neg (show ¬ (i : Int) < cs.length by omega)]
      exact Ev.fin (allFrom_end (by omega)).symm)
  | d + 1, i, e => Ev.unroll (by
      have hi : i < cs.length := by omega
      simp only [impl_FloorOk.l0, impl_in_f, some_bind]
      simp only [if_pos (show (i : Int) < cs.length by omega), if_pos (show (0 : Int) ≤ i by omega), wrap_succ hi hn, rd, Int.toNat_natCast]
      by_cases h1 : inB (cs.getD i 0) 0 4 = true
      · simp only [if_pos h1]
        rw [show kindsOk cs i = kindsOk cs (i + 1) from allFrom_yes hi h1]
        exact impl_FloorOk_l0 cs hn d (i + 1) (by omega)
      · simp only [if_neg h1]
        exact Ev.fin (allFrom_no hi (by simpa using h1)).symm)
theorem inB_mul {w h : Int} (h1 : inB w 1 10 = true) (h2 : inB h 1 10 = true) : wrap64 (w * h) = w * h ∧ 1 ≤ w * h ∧ w * h ≤ 100 := by
  obtain ⟨a, b⟩ := inB_iff.1 h1
  obtain ⟨c, d⟩ := inB_iff.1 h2
  have e1 : 1 * 1 ≤ w * h := Int.mul_le_mul a c (by omega) (by omega)
  have e2 : w * h ≤ 10 * 10 := Int.mul_le_mul b d (by omega) (by omega)
  exact ⟨wrap_id (by omega) (by omega), by omega, by omega⟩
theorem spec_FloorOk_f (w h : Int) (cs : List Int) (hn : cs.length ≤ BIG) : Ev (fun k => spec_FloorOk.f k w h cs) (floorOk w h cs) := by
  unfold spec_FloorOk.f floorOk
  simp only [spec_l1In_f, some_bind]
  by_cases h1 : inB w 1 10 = true
  · simp only [if_pos h1]
    by_cases h2 : inB h 1 10 = true
    · simp only [if_pos h2, (inB_mul h1 h2).1]
      refine Ev.unroll ?_
      simp only [spec_FloorOk.j0]
      by_cases h3 : (cs.length : Int) = w * h
      · simp only [h3, bne_self_eq_false, Bool.false_eq_true, if_false, h1, h2, Bool.true_and, decide_true]
        exact spec_FloorOk_l0 w h cs hn cs.length 0 (by omega)
      · simp only [if_pos (show ((cs.length : Int) != w * h) = true by simpa using h3)]
        exact Ev.fin (by simp [h3])
    · simp only [if_neg h2]
      refine Ev.unroll ?_
      simp only [spec_FloorOk.j0, if_true]
      exact Ev.fin (by rw [Bool.not_eq_true] at h2; rw [h2]; simp)
  · simp only [if_neg h1]
    refine Ev.unroll ?_
    simp only [spec_FloorOk.j0, if_true]
    exact Ev.fin (by rw [Bool.not_eq_true] at h1; rw [h1]; simp)
theorem impl_FloorOk_f (w h : Int) (cs : List Int) (hn : cs.length ≤ BIG) : Ev (fun k => impl_FloorOk.f k w h cs) (floorOk w h cs) := by
  unfold impl_FloorOk.f floorOk
  simp only [impl_in_f, some_bind]
  by_cases h1 : inB w 1 10 = true
  · simp only [if_pos h1]
    by_cases h2 : inB h 1 10 = true
    · simp only [if_pos h2, (inB_mul h1 h2).1]
      refine Ev.unroll ?_
      simp only [impl_FloorOk.j0]
      by_cases h3 : (cs.length : Int) = w * h
      · simp only [h3, bne_self_eq_false, Bool.false_eq_true, if_false, h1, h2, Bool.true_and, decide_true]
        rw [← h3]
        exact impl_FloorOk_l0 cs hn cs.length 0 (by omega)
      · simp only [if_pos (show ((cs.length : Int) != w * h) = true by simpa using h3)]
        exact Ev.fin (by simp [h3])
    · simp only [if_neg h2]
      refine Ev.unroll ?_
      simp only [impl_FloorOk.j0, if_true]
      exact Ev.fin (by rw [Bool.not_eq_true] at h2; rw [h2]; simp)
  · simp only [if_neg h1]
    refine Ev.unroll ?_
    simp only [impl_FloorOk.j0, if_true]
    exact Ev.fin (by rw [Bool.not_eq_true] at h1; rw [h1]; simp)

/-! #### Cell -/
theorem spec_l1Cell_f (w h : Int) (cs : List Int) (c : Int) (hn : cs.length ≤ BIG) : Ev (fun k => spec_l1Cell.f k w h cs c) (floorOk w h cs && inB c 0 ((cs.length : Int) - 1)) := by
  unfold spec_l1Cell.f
  refine Ev.bind (spec_FloorOk_f w h cs hn) ?_
  unfold BIG at hn
  by_cases h1 : floorOk w h cs = true
  · simp only [if_pos h1, spec_l1In_f, some_bind, wrap_id (show -9223372036854775808 ≤ (cs.length : Int) - 1 by omega) (by omega)]
    exact Ev.fin (by rw [h1, Bool.true_and])
  · simp only [if_neg h1]
    rw [Bool.not_eq_true] at h1
    exact Ev.fin (by rw [h1, Bool.false_and])
theorem impl_isCell_f (w h : Int) (cs : List Int) (c : Int) (hn : cs.length ≤ BIG) : impl_isCell.f w h cs c = some (inB c 0 ((cs.length : Int) - 1)) := by
  unfold impl_isCell.f
  unfold BIG at hn
  rw [wrap_id (by omega) (by omega), impl_in_f]
  rfl

/-! #### Near -/
/-- The cells beside one: above, left, right, below. -/
def besideL (w h c : Int) : List Int :=
  (if c / w > 0 then [c - w] else []) ++ ((if c % w > 0 then [c - 1] else []) ++ ((if c % w < w - 1 then [c + 1] else []) ++ (if c / w < h - 1 then [c + w] else [])))
theorem besideL_le (w h c : Int) : (besideL w h c).length ≤ 4 := by
  unfold besideL
  split <;> split <;> split <;> split <;> simp
/-- A floor's bounds. -/
structure Fits (w h c : Int) : Prop where
  w1 : 1 ≤ w
  w2 : w ≤ 10
  h1 : 1 ≤ h
  h2 : h ≤ 10
  c1 : 0 ≤ c
  c2 : c < w * h
theorem Fits.area {w h c : Int} (f : Fits w h c) : w * h ≤ 100 := by
  have e2 : w * h ≤ 10 * 10 := Int.mul_le_mul f.w2 f.h2 (by have := f.h1; omega) (by omega)
  omega
theorem Fits.quot {w h c : Int} (f : Fits w h c) : 0 ≤ c / w ∧ c / w < h ∧ c = w * (c / w) + c % w ∧ 0 ≤ c % w ∧ c % w < w := by
  refine ⟨Int.ediv_nonneg f.c1 (by have := f.w1; omega), ?_, (Int.mul_ediv_add_emod c w).symm, Int.emod_nonneg _ (by have := f.w1; omega), Int.emod_lt_of_pos _ (by have := f.w1; omega)⟩
  apply Int.ediv_lt_of_lt_mul (by have := f.w1; omega)
  have := f.c2
  rw [Int.mul_comm]; exact this
theorem Fits.tdiv {w h c : Int} (f : Fits w h c) : wrap64 (Int.tdiv c w) = c / w := by
  have q := f.quot; have a := f.h2
  rw [Int.tdiv_eq_ediv_of_nonneg f.c1, wrap_id (by omega) (by omega)]
theorem Fits.tmod {w h c : Int} (f : Fits w h c) : Int.tmod c w = c % w := Int.tmod_eq_emod_of_nonneg f.c1
theorem mem_besideL {w h c x : Int} (f : Fits w h c) (hx : x ∈ besideL w h c) : 0 ≤ x ∧ x < w * h := by
  obtain ⟨q1, q2, q3, q4, q5⟩ := f.quot
  have hc := f.c2; have hw := f.w1
  unfold besideL at hx
  simp only [List.mem_append] at hx
  have up : c / w > 0 → w ≤ w * (c / w) := fun h => by have := Int.mul_le_mul_of_nonneg_left (show (1 : Int) ≤ c / w by omega) (show 0 ≤ w by omega); rw [Int.mul_one] at this; exact this
  have down : c / w < h - 1 → w * (c / w) + w * 2 ≤ w * h := fun hh => by
    have := Int.mul_le_mul_of_nonneg_left (show c / w + 2 ≤ h by omega) (show 0 ≤ w by omega)
    rw [Int.mul_add] at this; exact this
  have right : w * (c / w) + w ≤ w * h := by
    have := Int.mul_le_mul_of_nonneg_left (show c / w + 1 ≤ h by omega) (show 0 ≤ w by omega)
    rw [Int.mul_add, Int.mul_one] at this; exact this
  have hm0 : 0 ≤ w * (c / w) := Int.mul_nonneg (by omega) q1
  generalize w * (c / w) = m at *
  generalize w * h = n at *
  generalize c % w = r at *
  generalize c / w = q at *
  rcases hx with hx | hx | hx | hx <;> split at hx <;> simp only [List.mem_singleton, List.not_mem_nil] at hx
  · rename_i g; have := up g; omega
  · omega
  · omega
  · rename_i g; have := down g; omega
/-- The cells beside one where one may go. -/
def nearL (w h : Int) (cs : List Int) (c : Int) (loaded : Bool) : List Int := (besideL w h c).filter (fun x => !(rd cs x == 0) && !(loaded && rd cs x == 2))
theorem nearL_le (w h : Int) (cs : List Int) (c : Int) (loaded : Bool) : (nearL w h cs c loaded).length ≤ 4 := Nat.le_trans (List.length_filter_le _ _) (besideL_le w h c)
theorem mem_nearL {w h : Int} {cs : List Int} {c x : Int} {loaded : Bool} : x ∈ nearL w h cs c loaded ↔ x ∈ besideL w h c ∧ rd cs x ≠ 0 ∧ (loaded = true → rd cs x ≠ 2) := by
  unfold nearL
  rw [List.mem_filter]
  cases loaded <;> simp

/-! #### NearSpec -/
theorem spec_l1Beside_f (w h : Int) (cs : List Int) (c : Int) (f : Fits w h c) : Ev (fun k => spec_l1Beside.f k w h cs c) (besideL w h c) := by
  have a := f.area; have w1 := f.w1; have w2 := f.w2; have h1 := f.h1; have h2 := f.h2; have c1 := f.c1; have c2 := f.c2
  unfold spec_l1Beside.f
  simp only [some_bind, if_neg (show ¬ w = 0 by omega), f.tdiv, f.tmod, wrap_id (show -9223372036854775808 ≤ c - w by omega) (by omega), List.length_nil, if_pos (show 0 < 17592186044416 by omega), List.nil_append]
  unfold besideL
  by_cases b1 : c / w > 0 <;> by_cases b2 : c % w > 0 <;> by_cases b3 : c % w < w - 1 <;> by_cases b4 : c / w < h - 1 <;>
    (simp only [b1, if_true, if_false]
     refine Ev.unroll ?_
     simp only [spec_l1Beside.j0, b2, if_true, if_false, List.length_cons, List.length_nil, List.length_append, if_pos (show 0 < 17592186044416 by omega), if_pos (show 0 + 1 < 17592186044416 by omega), wrap_id (show -9223372036854775808 ≤ c - 1 by omega) (by omega)]
     refine Ev.unroll ?_
     simp only [spec_l1Beside.j1, wrap_id (show -9223372036854775808 ≤ w - 1 by omega) (by omega), wrap_id (show -9223372036854775808 ≤ h - 1 by omega) (by omega), wrap_id (show -9223372036854775808 ≤ c + 1 by omega) (by omega), wrap_id (show -9223372036854775808 ≤ c + w by omega) (by omega),
       b3, b4, if_true, if_false, some_bind, List.length_cons, List.length_nil, List.length_append, if_pos (show 0 < 17592186044416 by omega), if_pos (show 0 + 1 < 17592186044416 by omega), if_pos (show 0 + 1 + 1 < 17592186044416 by omega), if_pos (show 0 + 1 + (0 + 1) < 17592186044416 by omega), if_pos (show 0 + 1 + 1 + (0 + 1) < 17592186044416 by omega), if_pos (show 0 + 1 + (0 + 1) + (0 + 1) < 17592186044416 by omega)]
     exact Ev.fin (by simp))
theorem spec_l1Near_l0 (w h : Int) (cs : List Int) (loaded : Bool) (bs : List Int) (hb : bs.length ≤ 4) (hr : ∀ x ∈ bs, 0 ≤ x ∧ x < (cs.length : Int)) : ∀ (d i : Nat) (acc : List Int), i + d = bs.length → acc.length ≤ i →
    Ev (fun k => spec_l1Near.l0 k loaded acc bs i w h cs) (acc ++ (bs.drop i).filter (fun x => !(rd cs x == 0) && !(loaded && rd cs x == 2)))
  | 0, i, acc, e, ha => Ev.unroll (by
      simp only [spec_l1Near.l0]
      simp only [if_neg (show ¬ (i : Int) < bs.length by omega)]
      exact Ev.fin (by rw [drop_end (by omega)]; simp))
  | d + 1, i, acc, e, ha => Ev.unroll (by
      have hi : i < bs.length := by omega
      have hx := hr bs[i] (List.getElem_mem hi)
      simp only [spec_l1Near.l0]
      simp only [if_pos (show (i : Int) < bs.length by omega), if_pos (show (0 : Int) ≤ i by omega), wrap_succ hi (show _ ≤ BIG by unfold BIG; omega), rd_nat hi, if_pos hx.1, if_pos hx.2, if_pos (show acc.length < 17592186044416 by omega)]
      rw [drop_cons hi, List.filter_cons]
      have ih := spec_l1Near_l0 w h cs loaded bs hb hr d (i + 1)
      by_cases h0 : rd cs bs[i] = 0
      · simp only [if_pos h0]
        rw [if_neg (by rw [h0]; simp)]
        exact ih acc (by omega) (by omega)
      · simp only [if_neg h0]
        cases loaded with
        | false =>
          simp only [Bool.false_eq_true, if_false]
          rw [if_pos (by simpa using h0)]
          have h9 := ih (acc ++ [bs[i]]) (by omega) (by simp; omega)
          rw [List.append_assoc] at h9
          exact h9
        | true =>
          simp only [if_true]
          by_cases h2 : rd cs bs[i] = 2
          · simp only [if_pos h2]
            rw [if_neg (by rw [h2]; simp)]
            exact ih acc (by omega) (by omega)
          · simp only [if_neg h2]
            rw [if_pos (by simp [h0, h2])]
            have h9 := ih (acc ++ [bs[i]]) (by omega) (by simp; omega)
            rw [List.append_assoc] at h9
            exact h9)
theorem spec_l1Near_f (w h : Int) (cs : List Int) (c : Int) (loaded : Bool) (f : Fits w h c) (hl : (cs.length : Int) = w * h) : Ev (fun k => spec_l1Near.f k w h cs c loaded) (nearL w h cs c loaded) := by
  unfold spec_l1Near.f
  refine Ev.bind (spec_l1Beside_f w h cs c f) ?_
  exact spec_l1Near_l0 w h cs loaded _ (besideL_le w h c) (fun x hx => by rw [hl]; exact mem_besideL f hx) (besideL w h c).length 0 [] (by omega) (by simp)

/-! #### NearImpl -/
theorem impl_beside_f (w h : Int) (cs : List Int) (c : Int) (f : Fits w h c) : Ev (fun k => impl_beside.f k w h cs c) (besideL w h c) := by
  have a := f.area; have w1 := f.w1; have w2 := f.w2; have h1 := f.h1; have h2 := f.h2; have c1 := f.c1; have c2 := f.c2
  unfold impl_beside.f
  simp only [some_bind, if_neg (show ¬ w = 0 by omega), f.tdiv, f.tmod, wrap_id (show -9223372036854775808 ≤ c - w by omega) (by omega), List.length_nil, if_pos (show 0 < 17592186044416 by omega), List.nil_append]
  unfold besideL
  by_cases b1 : c / w > 0 <;> by_cases b2 : c % w > 0 <;> by_cases b3 : c % w < w - 1 <;> by_cases b4 : c / w < h - 1 <;>
    (simp only [b1, if_true, if_false]
     refine Ev.unroll ?_
     simp only [impl_beside.j0, b2, if_true, if_false, List.length_cons, List.length_nil, List.length_append, if_pos (show 0 < 17592186044416 by omega), if_pos (show 0 + 1 < 17592186044416 by omega), wrap_id (show -9223372036854775808 ≤ c - 1 by omega) (by omega)]
     refine Ev.unroll ?_
     simp only [impl_beside.j1, wrap_id (show -9223372036854775808 ≤ w - 1 by omega) (by omega), wrap_id (show -9223372036854775808 ≤ h - 1 by omega) (by omega), wrap_id (show -9223372036854775808 ≤ c + 1 by omega) (by omega), wrap_id (show -9223372036854775808 ≤ c + w by omega) (by omega),
       b3, b4, if_true, if_false, some_bind, List.length_cons, List.length_nil, List.length_append, if_pos (show 0 < 17592186044416 by omega), if_pos (show 0 + 1 < 17592186044416 by omega), if_pos (show 0 + 1 + 1 < 17592186044416 by omega), if_pos (show 0 + 1 + (0 + 1) < 17592186044416 by omega), if_pos (show 0 + 1 + 1 + (0 + 1) < 17592186044416 by omega), if_pos (show 0 + 1 + (0 + 1) + (0 + 1) < 17592186044416 by omega)]
     exact Ev.fin (by simp))
theorem impl_near_l0 (w h : Int) (cs : List Int) (loaded : Bool) (bs : List Int) (hb : bs.length ≤ 4) (hr : ∀ x ∈ bs, 0 ≤ x ∧ x < (cs.length : Int)) : ∀ (d i : Nat) (acc : List Int), i + d = bs.length → acc.length ≤ i →
    Ev (fun k => impl_near.l0 k loaded acc bs bs.length i w h cs) (acc ++ (bs.drop i).filter (fun x => !(rd cs x == 0) && !(loaded && rd cs x == 2)))
  | 0, i, acc, e, ha => Ev.unroll (by
      simp only [impl_near.l0]
      simp only [if_neg (show ¬ (i : Int) < bs.length by omega)]
      exact Ev.fin (by rw [drop_end (by omega)]; simp))
  | d + 1, i, acc, e, ha => Ev.unroll (by
      have hi : i < bs.length := by omega
      have hx := hr bs[i] (List.getElem_mem hi)
      simp only [impl_near.l0]
      simp only [if_pos (show (i : Int) < bs.length by omega), if_pos (show (0 : Int) ≤ i by omega), wrap_succ hi (show _ ≤ BIG by unfold BIG; omega), rd_nat hi, if_pos hx.1, if_pos hx.2, if_pos (show acc.length < 17592186044416 by omega)]
      rw [drop_cons hi, List.filter_cons]
      have ih := impl_near_l0 w h cs loaded bs hb hr d (i + 1)
      by_cases h0 : rd cs bs[i] = 0
      · simp only [if_pos h0]
        rw [if_neg (by rw [h0]; simp)]
        exact ih acc (by omega) (by omega)
      · simp only [if_neg h0]
        cases loaded with
        | false =>
          simp only [Bool.false_eq_true, if_false]
          rw [if_pos (by simpa using h0)]
          have h9 := ih (acc ++ [bs[i]]) (by omega) (by simp; omega)
          rw [List.append_assoc] at h9
          exact h9
        | true =>
          simp only [if_true]
          by_cases h2 : rd cs bs[i] = 2
          · simp only [if_pos h2]
            rw [if_neg (by rw [h2]; simp)]
            exact ih acc (by omega) (by omega)
          · simp only [if_neg h2]
            rw [if_pos (by simp [h0, h2])]
            have h9 := ih (acc ++ [bs[i]]) (by omega) (by simp; omega)
            rw [List.append_assoc] at h9
            exact h9)
theorem impl_near_f (w h : Int) (cs : List Int) (c : Int) (loaded : Bool) (f : Fits w h c) (hl : (cs.length : Int) = w * h) : Ev (fun k => impl_near.f k w h cs c loaded) (nearL w h cs c loaded) := by
  unfold impl_near.f
  refine Ev.bind (impl_beside_f w h cs c f) ?_
  exact impl_near_l0 w h cs loaded _ (besideL_le w h c) (fun x hx => by rw [hl]; exact mem_besideL f hx) (besideL w h c).length 0 [] (by omega) (by simp)

/-! #### NearTop -/
theorem fits_of {w h : Int} {cs : List Int} {c : Int} (h1 : floorOk w h cs = true) (h2 : inB c 0 ((cs.length : Int) - 1) = true) : Fits w h c ∧ (cs.length : Int) = w * h := by
  unfold floorOk at h1
  simp only [Bool.and_eq_true, inB_iff, decide_eq_true_eq] at h1
  have h3 := inB_iff.1 h2
  exact ⟨⟨h1.1.1.1.1, h1.1.1.1.2, h1.1.1.2.1, h1.1.1.2.2, by omega, by have := h1.1.2; omega⟩, h1.1.2⟩
def nearOf (w h : Int) (cs : List Int) (c : Int) (loaded : Bool) : List Int := if (floorOk w h cs && inB c 0 ((cs.length : Int) - 1)) = true then nearL w h cs c loaded else []
theorem nearOf_le (w h : Int) (cs : List Int) (c : Int) (loaded : Bool) : (nearOf w h cs c loaded).length ≤ 4 := by
  unfold nearOf
  split
  · exact nearL_le _ _ _ _ _
  · simp
theorem spec_Near_f (w h : Int) (cs : List Int) (c : Int) (loaded : Bool) (hn : cs.length ≤ BIG) : Ev (fun k => spec_Near.f k w h cs c loaded) (nearOf w h cs c loaded) := by
  unfold spec_Near.f nearOf
  refine Ev.bind (spec_l1Cell_f w h cs c hn) ?_
  by_cases h1 : (floorOk w h cs && inB c 0 ((cs.length : Int) - 1)) = true
  · obtain ⟨f, hl⟩ := fits_of (Bool.and_eq_true_iff.1 h1).1 (Bool.and_eq_true_iff.1 h1).2
    simp only [if_pos h1]
    exact Ev.bind (spec_l1Near_f w h cs c loaded f hl) (Ev.now _)
  · simp only [if_neg h1]
    exact Ev.now _
theorem impl_Near_f (w h : Int) (cs : List Int) (c : Int) (loaded : Bool) (hn : cs.length ≤ BIG) : Ev (fun k => impl_Near.f k w h cs c loaded) (nearOf w h cs c loaded) := by
  unfold impl_Near.f nearOf
  refine Ev.bind (impl_FloorOk_f w h cs hn) ?_
  by_cases h1 : floorOk w h cs = true
  · simp only [if_pos h1, impl_isCell_f w h cs c hn, some_bind]
    by_cases h2 : inB c 0 ((cs.length : Int) - 1) = true
    · obtain ⟨f, hl⟩ := fits_of h1 h2
      simp only [if_pos h2, h1, h2, Bool.true_and, if_true]
      exact Ev.bind (impl_near_f w h cs c loaded f hl) (Ev.now _)
    · simp only [if_neg h2, h1, Bool.true_and]
      exact Ev.now _
  · simp only [if_neg h1]
    rw [Bool.not_eq_true] at h1
    exact Ev.fin (by rw [h1]; rfl)

/-! #### Marks -/
/-- a, a + 1, .. : n of them. -/
def marksFrom (a n : Nat) : List Int := (List.range' a n).map (fun j : Nat => (j : Int))
theorem marksFrom_length (a n : Nat) : (marksFrom a n).length = n := by unfold marksFrom; simp
theorem marksFrom_succ (a n : Nat) : marksFrom a (n + 1) = marksFrom a n ++ [((a + n : Nat) : Int)] := by
  unfold marksFrom
  rw [List.range'_1_concat, List.map_append]; rfl
theorem marksFrom_getD (a n i : Nat) (h : i < n) : (marksFrom a n).getD i 0 = ((a + i : Nat) : Int) := by
  rw [getD_at (by rw [marksFrom_length]; exact h)]
  unfold marksFrom
  simp
theorem markIntS_l0 (a n : Nat) (hn : a + n ≤ BIG) : ∀ (d i : Nat) (zs : List Int), i + d = n → zs.length = d → Ev (fun k => laws_markIntS.l0 k (marksFrom a i ++ zs) ((a + i : Nat) : Int) i) (((a + n : Nat) : Int), marksFrom a n)
  | 0, i, zs, h, hz => Ev.unroll (by
      obtain rfl := List.length_eq_zero_iff.1 hz
      obtain rfl : i = n := by omega
      simp only [laws_markIntS.l0, List.append_nil, marksFrom_length, Int.lt_irrefl, if_false]
      exact Ev.now _)
  | d + 1, i, zs, h, hz => Ev.unroll (by
      have hl : (marksFrom a i ++ zs).length = n := by rw [List.length_append, marksFrom_length]; omega
      simp only [laws_markIntS.l0, hl]
      simp only [if_pos (show (i : Int) < (n : Int) by omega), if_pos (show (0 : Int) ≤ i by omega), wrap_succ (show i < n by omega) (by omega), wrap_succ (show a + i < a + n by omega) hn, Int.toNat_natCast]
      rw [fill_step (marksFrom a i) zs _ (marksFrom_length a i).symm (by omega), ← marksFrom_succ, Nat.add_assoc]
      exact markIntS_l0 a n hn d (i + 1) _ (by omega) (by simp; omega))
theorem markIntS_f (l : List Int) (a : Nat) (hn : a + l.length ≤ BIG) : Ev (fun k => laws_markIntS.f k l (a : Int)) (((a + l.length : Nat) : Int), marksFrom a l.length) :=
  markIntS_l0 a l.length hn l.length 0 l (by omega) rfl
theorem heldIntS_l0 (a n : Nat) (hn : a + n ≤ BIG) : ∀ (d i : Nat), i + d = n → Ev (fun k => laws_heldIntS.l0 k (marksFrom a n) ((a + i : Nat) : Int) i) ((a + n : Nat) : Int)
  | 0, i, h => Ev.unroll (by
      obtain rfl : i = n := by omega
      simp only [laws_heldIntS.l0, marksFrom_length, Int.lt_irrefl, if_false]
      exact Ev.now _)
  | d + 1, i, h => Ev.unroll (by
      simp only [laws_heldIntS.l0, marksFrom_length]
      simp only [if_pos (show (i : Int) < (n : Int) by omega), if_pos (show (0 : Int) ≤ i by omega), wrap_succ (show i < n by omega) (by omega), wrap_succ (show a + i < a + n by omega) hn, rd, Int.toNat_natCast, marksFrom_getD a n i (by omega), if_true]
      exact heldIntS_l0 a n hn d (i + 1) (by omega))
theorem heldIntS_f (a n : Nat) (hn : a + n ≤ BIG) : Ev (fun k => laws_heldIntS.f k (marksFrom a n) (a : Int)) ((a + n : Nat) : Int) :=
  heldIntS_l0 a n hn n 0 (by omega)

/-! #### MarkFloor -/
theorem markFloor_f (w h : Int) (l : List Int) (a : Nat) (hn : a + l.length ≤ BIG) : Ev (fun k => laws_markFloor.f k w h l (a : Int)) (((a + l.length : Nat) : Int), marksFrom a l.length) := by
  unfold laws_markFloor.f
  exact Ev.bind (markIntS_f l a hn) (Ev.now _)

/-! #### FnExactNear -/
theorem FnExactNear : ∀ (a0_0 : Int) (a0_1 : Int) (l0_2 : List (Int)) (a1 : Int) (a2 : Bool), (-9223372036854775808 ≤ a0_0 ∧ a0_0 ≤ 9223372036854775807) → (-9223372036854775808 ≤ a0_1 ∧ a0_1 ≤ 9223372036854775807) → (l0_2.length ≤ 9223372036854775807 ∧ ∀ y0 ∈ l0_2, (-9223372036854775808 ≤ y0 ∧ y0 ≤ 9223372036854775807)) → (-9223372036854775808 ≤ a1 ∧ a1 ≤ 9223372036854775807) → ∃ k, laws_FnExactNear.f k a0_0 a0_1 l0_2 a1 a2 = some true := by
  intro w h l c ld _ _ ⟨hl, _⟩ _
  refine Ev.rounds ?_
  unfold laws_FnExactNear.f
  by_cases hb : (l.length : Int) ≤ 1048576
  · have hl2 : l.length ≤ 1048576 := by omega
    have hB : l.length ≤ BIG := by unfold BIG; omega
    have hp : (nearOf w h l c ld).length ≤ 4 := nearOf_le w h l c ld
    have hpB : (nearOf w h l c ld).length ≤ BIG := by unfold BIG; omega
    simp only [szFloor_f w h l _ hl (show (0 : Int) ≤ 1048576 by omega) (by omega), if_pos hb, some_bind, if_neg (show ¬ (1048576 - (l.length : Int)) < 0 by omega)]
    refine Ev.bind (toFloor_f w h l hl2) (Ev.bind (spec_Near_f w h l c ld hB) (Ev.bind (toFloor_f w h l hl2) (Ev.bind (impl_Near_f w h l c ld hB) (Ev.bind (eqIntS_f _ hpB) ?_))))
    simp only [if_true]
    refine Ev.bind (toFloor_f w h l hl2) (Ev.bind (eqFloor_f w h l hB) ?_)
    simp only [if_true]
    refine Ev.bind (markFloor_f w h l 1 (by unfold BIG; omega)) ?_
    simp only [if_neg (show ¬ ((1 + l.length : Nat) : Int) < 0 by omega)]
    refine Ev.bind (eqIntS_f _ hpB) (Ev.unroll ?_)
    simp only [laws_FnExactNear.j0, Bool.not_true, Bool.false_eq_true, if_false]
    refine Ev.bind (markIntS_f _ 1 (by unfold BIG; omega)) (Ev.bind (heldIntS_f 1 _ (by unfold BIG; omega)) ?_)
    simp only [if_neg (show ¬ ((1 + (nearOf w h l c ld).length : Nat) : Int) < 0 by omega), if_true]
    refine Ev.bind (toFloor_f w h l hl2) (Ev.bind (impl_Near_f w h l c ld hB) (Ev.bind (eqIntS_f _ hpB) ?_))
    simp only [if_true]
    refine Ev.bind (heldIntS_f 1 _ (by unfold BIG; omega)) ?_
    simp only [if_neg (show ¬ ((1 + (nearOf w h l c ld).length : Nat) : Int) < 0 by omega), if_true]
    exact Ev.now _
  · simp only [szFloor_f w h l _ hl (show (0 : Int) ≤ 1048576 by omega) (by omega), if_neg hb, some_bind]
    exact Ev.now _

end Go.Proofs.Ytjeonneegmhcdaa.Pure
