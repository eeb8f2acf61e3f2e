/- Proved here: the law FnMatched, over numbers and lists: for all arguments it returns true; no condition. -/
import Derived.Test.YtbebfhlejnidkaaPFnMatchedx10
namespace Go.Proofs.Ytbebfhlejnidkaa.Pure
open Go.RowKit Go.Proofs.Ytbebfhlejnidkaa.PFnMatched Go.Proofs.YtbebfhlejnidkaaW.PrintWords Go.Proofs.YtbebfhlejnidkaaW.PrintLast
set_option linter.unusedVariables false
set_option linter.unusedSimpArgs false

theorem Ev.unroll {α : Type} {g : Nat → Option α} {r : α} (h : Ev (fun k => g (k + 1)) r) : Ev g r := Ev.step (fun _ => rfl) h
theorem Ev.const {α : Type} {x : Option α} {r : α} (h : x = some r) : Ev (fun _ => x) r := ⟨0, fun _ _ => h⟩
theorem Ev.fin {α : Type} {r s : α} (h : r = s) : Ev (fun _ => some r) s := by rw [h]; exact Ev.now _
theorem wrap_id {x : Int} (h0 : -9223372036854775808 ≤ x) (h1 : x ≤ 9223372036854775807) : wrap64 x = x := by unfold wrap64; omega
abbrev BIG : Nat := 4611686018427387904
theorem wrap_succ {i n : Nat} (h : i < n) (hn : n ≤ BIG) : wrap64 ((i : Int) + 1) = ((i + 1 : Nat) : Int) := by unfold wrap64; unfold BIG at hn; omega
theorem rd_nat {xs : List Int} {i : Nat} (h : i < xs.length) : rd xs (i : Int) = xs[i] := by unfold rd; simp [List.getD, h]
theorem drop_cons {α : Type} {xs : List α} {i : Nat} (h : i < xs.length) : xs.drop i = xs[i] :: xs.drop (i + 1) := List.drop_eq_getElem_cons h
theorem drop_end {α : Type} {xs : List α} {i : Nat} (h : xs.length ≤ i) : xs.drop i = [] := List.drop_of_length_le h
theorem some_bind {α β : Type} (a : α) (f : α → Option β) : (some a).bind f = f a := rfl
theorem getD_at {α : Type} {xs : List α} {d : α} {i : Nat} (h : i < xs.length) : xs.getD i d = xs[i] := by simp [List.getD, h]
def allFrom (n i : Nat) (p : Nat → Bool) : Bool := (List.range' i (n - i)).all p
theorem allFrom_end {n i : Nat} {p : Nat → Bool} (h : n ≤ i) : allFrom n i p = true := by
 unfold allFrom
 rw [show n - i = 0 by omega]; rfl
theorem allFrom_step {n i : Nat} {p : Nat → Bool} (h : i < n) : allFrom n i p = (p i && allFrom n (i + 1) p) := by
 unfold allFrom
 rw [show n - i = (n - (i + 1)) + 1 by omega, List.range'_succ, List.all_cons]
theorem allFrom_no {n i : Nat} {p : Nat → Bool} (h : i < n) (hp : p i = false) : allFrom n i p = false := by rw [allFrom_step h, hp, Bool.false_and]
theorem allFrom_yes {n i : Nat} {p : Nat → Bool} (h : i < n) (hp : p i = true) : allFrom n i p = allFrom n (i + 1) p := by rw [allFrom_step h, hp, Bool.true_and]
theorem allFrom_iff {n i : Nat} {p : Nat → Bool} : allFrom n i p = true ↔ ∀ j, i ≤ j → j < n → p j = true := by
 unfold allFrom
 rw [List.all_eq_true]
 constructor
 ·intro h j h1 h2
  exact h j (by rw [List.mem_range'_1]; omega)
 ·intro h j hj
  rw [List.mem_range'_1] at hj
  exact h j hj.1 (by omega)
theorem wrap_sc {i : Nat} (h : i < 9223372036854775807) : wrap64 ((i : Int) + 1) = ((i + 1 : Nat) : Int) := by unfold wrap64; omega
theorem rd_nat' {xs : List Int} {i : Nat} : rd xs (i : Int) = xs.getD i 0 := by unfold rd; rw [Int.toNat_natCast]
theorem getD_zero' {α : Type} {xs : List α} {d : α} : xs.getD (0 : Int).toNat d = xs.getD 0 d := rfl
theorem Ev.ifp {α : Type} {c : Prop} [Decidable c] {g h : Nat → Option α} {r : α} (hc : c) (e : Ev g r) : Ev (fun k => if c then g k else h k) r := by simp only [if_pos hc]; exact e
theorem Ev.ifn {α : Type} {c : Prop} [Decidable c] {g h : Nat → Option α} {r : α} (hc : ¬ c) (e : Ev h r) : Ev (fun k => if c then g k else h k) r := by simp only [if_neg hc]; exact e
theorem ev_ite' {α : Type} {c : Prop} [Decidable c] {g h : Nat → Option α} {r : α} (h1 : c → Ev g r) (h2 : ¬ c → Ev h r) : Ev (fun k => if c then g k else h k) r := by
 by_cases hc : c
 ·simp only [if_pos hc]; exact h1 hc
 ·simp only [if_neg hc]; exact h2 hc
theorem rdSS_n {xs : List (List Int)} {i : Nat} : rd_L1 xs (i : Int) = xs.getD i [] := by unfold rd_L1; rw [Int.toNat_natCast]
theorem rdSS_z {xs : List (List Int)} : rd_L1 xs 0 = xs.getD 0 [] := by have := @rdSS_n xs 0; exact this

def inB (a b c : Int) : Bool := decide (b ≤ a ∧ a ≤ c)
theorem inB_iff {a b c : Int} : inB a b c = true ↔ b ≤ a ∧ a ≤ c := by unfold inB; exact decide_eq_true_iff
theorem inB_no {a b c : Int} : inB a b c = false ↔ ¬ (b ≤ a ∧ a ≤ c) := by rw [← inB_iff]; simp
theorem impl_in_f (a b c : Int) : impl_in.f a b c = some (inB a b c) := by
 unfold impl_in.f inB
 by_cases h : b ≤ a <;> by_cases h2 : a ≤ c <;> simp [h, h2]
def rowOk (c : List (List Int)) (l : List Int) : Bool := decide (l.length = (c.getD 0 []).length ∧ c.length ≤ l.length ∧ l.length ≤ 10) && allFrom l.length 0 (fun j => inB (l.getD j 0) 0 100000)
def costsOk (c : List (List Int)) : Bool := decide (c.length ≤ 10) && allFrom c.length 0 (fun i => rowOk c (c.getD i []))
theorem impl_CostsOk_l1 (c : List (List Int)) (i : Nat) (R : Bool) (hc : c.length ≤ 10) (l : List Int) (hl : l.length ≤ 10) (hi : i < c.length) (hR : Ev (fun k => impl_CostsOk.l0 k c c c.length ((i + 1 : Nat) : Int)) R) :
  ∀ (d j : Nat), j + d = l.length → Ev (fun k => impl_CostsOk.l1 k c c c.length i l l.length j) (allFrom l.length j (fun j => inB (l.getD j 0) 0 100000) && R)
 | 0, j, h => Ev.unroll (by
   simp (disch := omega) only [impl_CostsOk.l1, ↓if_pos, ↓if_neg, if_pos, if_neg, decide_eq_true_eq, ↓reduceIte, ↓wrap_sc, wrap_id, some_bind, Int.toNat_natCast, rd_nat', getD_zero', Bool.not_true, Bool.not_false, Bool.false_eq_true, decide_true, decide_false]
   rw [allFrom_end (by omega), Bool.true_and]
   exact hR)
 | d + 1, j, h => Ev.unroll (by
   simp (disch := omega) only [impl_CostsOk.l1, impl_in_f, ↓if_pos, ↓if_neg, if_pos, if_neg, decide_eq_true_eq, ↓reduceIte, ↓wrap_sc, wrap_id, some_bind, Int.toNat_natCast, rd_nat', getD_zero', Bool.not_true, Bool.not_false, Bool.false_eq_true, decide_true, decide_false]
   by_cases h1 : inB (l.getD j 0) 0 100000 = true
   ·simp (disch := omega) only [h1, ↓if_pos, ↓if_neg, if_pos, if_neg, decide_eq_true_eq, ↓reduceIte, ↓wrap_sc, wrap_id, some_bind, Int.toNat_natCast, rd_nat', getD_zero', Bool.not_true, Bool.not_false, Bool.false_eq_true, decide_true, decide_false]
    rw [allFrom_yes (by omega) h1]
    exact impl_CostsOk_l1 c i R hc l hl hi hR d (j + 1) (by omega)
   ·rw [Bool.not_eq_true] at h1
    simp (disch := omega) only [h1, ↓if_pos, ↓if_neg, if_pos, if_neg, decide_eq_true_eq, ↓reduceIte, ↓wrap_sc, wrap_id, some_bind, Int.toNat_natCast, rd_nat', getD_zero', Bool.not_true, Bool.not_false, Bool.false_eq_true, decide_true, decide_false]
    exact Ev.fin (by rw [allFrom_no (by omega) h1, Bool.false_and]))
theorem impl_CostsOk_l0 (c : List (List Int)) (hc : c.length ≤ 10) : ∀ (d i : Nat), i + d = c.length → Ev (fun k => impl_CostsOk.l0 k c c c.length i) (allFrom c.length i (fun i => rowOk c (c.getD i [])))
 | 0, i, h => Ev.unroll (by
   simp (disch := omega) only [impl_CostsOk.l0, ↓if_pos, ↓if_neg, if_pos, if_neg, decide_eq_true_eq, ↓reduceIte, ↓wrap_sc, wrap_id, some_bind, Int.toNat_natCast, rd_nat', getD_zero', Bool.not_true, Bool.not_false, Bool.false_eq_true, decide_true, decide_false]
   exact Ev.fin (allFrom_end (by omega)).symm)
 | d + 1, i, h => Ev.unroll (by
   have ih := impl_CostsOk_l0 c hc d (i + 1) (by omega)
   simp (disch := omega) only [impl_CostsOk.l0, rdSS_n, rdSS_z, impl_in_f, ↓if_pos, ↓if_neg, if_pos, if_neg, decide_eq_true_eq, ↓reduceIte, ↓wrap_sc, wrap_id, some_bind, Int.toNat_natCast, rd_nat', getD_zero', Bool.not_true, Bool.not_false, Bool.false_eq_true, decide_true, decide_false]
   rw [allFrom_step (by omega)]
   by_cases h2 : (c.getD i []).length = (c.getD 0 []).length
   ·by_cases h3 : inB ((c.getD i []).length : Int) (c.length : Int) 10 = true
    ·have h4 := inB_iff.1 h3
     simp (disch := omega) only [h3, ↓if_pos, ↓if_neg, if_pos, if_neg, decide_eq_true_eq, ↓reduceIte, ↓wrap_sc, wrap_id, some_bind, Int.toNat_natCast, rd_nat', getD_zero', Bool.not_true, Bool.not_false, Bool.false_eq_true, decide_true, decide_false]
     refine Ev.unroll ?_
     simp (disch := omega) only [impl_CostsOk.j1, ↓if_pos, ↓if_neg, if_pos, if_neg, decide_eq_true_eq, ↓reduceIte, ↓wrap_sc, wrap_id, some_bind, Int.toNat_natCast, rd_nat', getD_zero', Bool.not_true, Bool.not_false, Bool.false_eq_true, decide_true, decide_false]
     have := impl_CostsOk_l1 c i _ hc (c.getD i []) (by omega) (by omega) ih (c.getD i []).length 0 (by omega)
     rw [show rowOk c (c.getD i []) = allFrom (c.getD i []).length 0 (fun j => inB ((c.getD i []).getD j 0) 0 100000) by unfold rowOk; rw [decide_eq_true ⟨h2, by omega, by omega⟩, Bool.true_and]]
     exact this
    ·rw [Bool.not_eq_true] at h3
     have h4 := inB_no.1 h3
     simp (disch := omega) only [h3, ↓if_pos, ↓if_neg, if_pos, if_neg, decide_eq_true_eq, ↓reduceIte, ↓wrap_sc, wrap_id, some_bind, Int.toNat_natCast, rd_nat', getD_zero', Bool.not_true, Bool.not_false, Bool.false_eq_true, decide_true, decide_false]
     refine Ev.unroll ?_
     simp (disch := omega) only [impl_CostsOk.j1, ↓if_pos, ↓if_neg, if_pos, if_neg, decide_eq_true_eq, ↓reduceIte, ↓wrap_sc, wrap_id, some_bind, Int.toNat_natCast, rd_nat', getD_zero', Bool.not_true, Bool.not_false, Bool.false_eq_true, decide_true, decide_false]
     exact Ev.fin (by unfold rowOk; rw [decide_eq_false (by omega), Bool.false_and, Bool.false_and])
   ·simp (disch := omega) only [↓if_pos, ↓if_neg, if_pos, if_neg, decide_eq_true_eq, ↓reduceIte, ↓wrap_sc, wrap_id, some_bind, Int.toNat_natCast, rd_nat', getD_zero', Bool.not_true, Bool.not_false, Bool.false_eq_true, decide_true, decide_false]
    refine Ev.unroll ?_
    simp (disch := omega) only [impl_CostsOk.j1, ↓if_pos, ↓if_neg, if_pos, if_neg, decide_eq_true_eq, ↓reduceIte, ↓wrap_sc, wrap_id, some_bind, Int.toNat_natCast, rd_nat', getD_zero', Bool.not_true, Bool.not_false, Bool.false_eq_true, decide_true, decide_false]
    exact Ev.fin (by unfold rowOk; rw [decide_eq_false (by omega), Bool.false_and, Bool.false_and]))
theorem impl_CostsOk_f (c : List (List Int)) : Ev (fun k => impl_CostsOk.f k c) (costsOk c) := by
 unfold impl_CostsOk.f costsOk
 by_cases hc : c.length ≤ 10
 ·simp (disch := omega) only [hc, Bool.true_and, ↓if_pos, ↓if_neg, if_pos, if_neg, decide_eq_true_eq, ↓reduceIte, ↓wrap_sc, wrap_id, some_bind, Int.toNat_natCast, rd_nat', getD_zero', Bool.not_true, Bool.not_false, Bool.false_eq_true, decide_true, decide_false]
  exact impl_CostsOk_l0 c hc c.length 0 (by omega)
 ·simp (disch := omega) only [hc, Bool.false_and, ↓if_pos, ↓if_neg, if_pos, if_neg, decide_eq_true_eq, ↓reduceIte, ↓wrap_sc, wrap_id, some_bind, Int.toNat_natCast, rd_nat', getD_zero', Bool.not_true, Bool.not_false, Bool.false_eq_true, decide_true, decide_false]
  exact Ev.now _

theorem bits_and_nat (a b : Nat) (ha : a < 2 ^ 62) (hb : b < 2 ^ 62) : Go.bits .and .i64 (a : Int) (b : Int) = ((a &&& b : Nat) : Int) := by
 have h := Nat.and_lt_two_pow (n := 62) a hb
 unfold Go.bits
 show IntKind.i64.wrap ((BitVec.ofInt 64 (a : Int) &&& BitVec.ofInt 64 (b : Int)).toNat : Int) = _
 simp only [BitVec.ofInt_natCast, BitVec.toNat_and, BitVec.toNat_ofNat]
 rw [Nat.mod_eq_of_lt (show a < 2 ^ 64 by omega), Nat.mod_eq_of_lt (show b < 2 ^ 64 by omega), i64_w, wrap_id (by omega) (by omega)]
theorem bits_or_nat (a b : Nat) (ha : a < 2 ^ 62) (hb : b < 2 ^ 62) : Go.bits .or .i64 (a : Int) (b : Int) = ((a ||| b : Nat) : Int) := by
 have h := Nat.or_lt_two_pow (n := 62) ha hb
 unfold Go.bits
 show IntKind.i64.wrap ((BitVec.ofInt 64 (a : Int) ||| BitVec.ofInt 64 (b : Int)).toNat : Int) = _
 simp only [BitVec.ofInt_natCast, BitVec.toNat_or, BitVec.toNat_ofNat]
 rw [Nat.mod_eq_of_lt (show a < 2 ^ 64 by omega), Nat.mod_eq_of_lt (show b < 2 ^ 64 by omega), i64_w, wrap_id (by omega) (by omega)]
theorem shl_one (k : Nat) (hk : k ≤ 20) : shl .i64 1 (k : Int) = ((2 ^ k : Nat) : Int) := by
 have h : 2 ^ k ≤ 2 ^ 20 := Nat.pow_le_pow_right (by omega) hk
 unfold shl
 simp only [IntKind.bits, Int.toNat_natCast]
 rw [show min k 64 = k by omega, Int.one_mul, i64_w, show (2 : Int) ^ k = ((2 ^ k : Nat) : Int) by simp]
 generalize 2 ^ k = m at *
 exact wrap_id (by omega) (by omega)
theorem shr_nat (s k : Nat) (hk : k ≤ 20) : shr .i64 (s : Int) (k : Int) = ((s / 2 ^ k : Nat) : Int) := by
 unfold shr
 simp only [IntKind.bits, Int.toNat_natCast]
 rw [show min k 64 = k by omega]
 simp
theorem bit_in (s k : Nat) (hs : s < 2 ^ 20) (hk : k ≤ 20) : (Go.bits .and .i64 (shr .i64 (s : Int) (k : Int)) 1 = 1) ↔ s.testBit k = true := by
 rw [shr_nat s k hk, show (1 : Int) = ((1 : Nat) : Int) from rfl, bits_and_nat _ _ (Nat.lt_of_le_of_lt (Nat.div_le_self _ _) (by omega)) (by decide), Nat.and_one_is_mod, Nat.testBit_eq_decide_div_mod_eq]
 rw [decide_eq_true_eq]
 omega
theorem bit_put (s k : Nat) (hs : s < 2 ^ 20) (hk : k < 20) : Go.bits .or .i64 (s : Int) (shl .i64 1 (k : Int)) = ((s ||| 2 ^ k : Nat) : Int) ∧ s ||| 2 ^ k < 2 ^ 20 := by
 have h : 2 ^ k < 2 ^ 20 := Nat.pow_lt_pow_right (by omega) hk
 refine ⟨?_, Nat.or_lt_two_pow hs h⟩
 rw [shl_one k (by omega), bits_or_nat _ _ (by omega) (by omega)]
theorem bit_put_mem (s k j : Nat) : (s ||| 2 ^ k).testBit j = (s.testBit j || decide (k = j)) := by
 rw [Nat.testBit_or, Nat.testBit_two_pow]

structure CostFacts (c : List (List Int)) : Prop where
 n : c.length ≤ 10
 row : ∀ i : Nat, i < c.length → (c.getD i []).length = (c.getD 0 []).length ∧ c.length ≤ (c.getD i []).length ∧ (c.getD i []).length ≤ 10
 cost : ∀ i j : Nat, i < c.length → j < (c.getD i []).length → 0 ≤ (c.getD i []).getD j 0 ∧ (c.getD i []).getD j 0 ≤ 100000
theorem costsOk_facts {c : List (List Int)} (h : costsOk c = true) : CostFacts c := by
 unfold costsOk at h
 simp only [Bool.and_eq_true, decide_eq_true_eq, allFrom_iff] at h
 have hr : ∀ i, i < c.length → rowOk c (c.getD i []) = true := fun i hi => h.2 i (by omega) hi
 refine ⟨h.1, fun i hi => ?_, fun i j hi hj => ?_⟩
 ·have := hr i hi
  unfold rowOk at this
  simp only [Bool.and_eq_true, decide_eq_true_eq] at this
  exact this.1
 ·have := hr i hi
  unfold rowOk at this
  simp only [Bool.and_eq_true, decide_eq_true_eq, allFrom_iff] at this
  exact inB_iff.1 (this.2 j (by omega) hj)
def sumFrom (c : List (List Int)) (cols : List Int) : Nat → Nat → Int → Int
 | 0, _, acc => acc
 | d + 1, i, acc => if inB (cols.getD i 0) 0 (((c.getD i []).length : Int) - 1) = true then (if (cols.take i).contains (cols.getD i 0) = true then -1 else sumFrom c cols d (i + 1) (acc + rd (c.getD i []) (cols.getD i 0))) else -1
def sumOf (c : List (List Int)) (cols : List Int) : Int := if costsOk c = true then (if cols.length = c.length then sumFrom c cols c.length 0 0 else -1) else -1
theorem cost_at {c : List (List Int)} (f : CostFacts c) {i : Nat} (hi : i < c.length) {x : Int} (hx : inB x 0 (((c.getD i []).length : Int) - 1) = true) : 0 ≤ x ∧ x < ((c.getD i []).length : Int) ∧ (c.getD i []).length ≤ 10 ∧ 0 ≤ rd (c.getD i []) x ∧ rd (c.getD i []) x ≤ 100000 := by
 have h1 := inB_iff.1 hx
 have h2 := f.cost i x.toNat hi (by omega)
 exact ⟨h1.1, by omega, (f.row i hi).2.2, h2.1, h2.2⟩
theorem impl_SumOf_l0 (c : List (List Int)) (cols : List Int) (f : CostFacts c) (hl : cols.length = c.length) : ∀ (d i : Nat) (acc : Int) (s : Nat), i + d = c.length → 0 ≤ acc → acc ≤ 100000 * (i : Int) → s < 2 ^ 20 → (∀ j : Nat, s.testBit j = true ↔ (j : Int) ∈ cols.take i) →
  Ev (fun k => impl_SumOf.l0 k c acc s cols cols.length i) (sumFrom c cols d i acc)
 | 0, i, acc, s, h, h0, h1, hs, hm => Ev.unroll (by
   simp (disch := omega) only [impl_SumOf.l0, ↓if_pos, ↓if_neg, if_pos, if_neg, decide_eq_true_eq, ↓reduceIte, ↓wrap_sc, wrap_id, some_bind, Int.toNat_natCast, rd_nat', getD_zero', Bool.not_true, Bool.not_false, Bool.false_eq_true, decide_true, decide_false]
   exact Ev.now _)
 | d + 1, i, acc, s, h, h0, h1, hs, hm => Ev.unroll (by
   have h2 := f.n
   have hi : i < c.length := by omega
   have h3 := (f.row i hi).2.2
   simp (disch := omega) only [impl_SumOf.l0, rdSS_n, impl_in_f, ↓if_pos, ↓if_neg, if_pos, if_neg, decide_eq_true_eq, ↓reduceIte, ↓wrap_sc, wrap_id, some_bind, Int.toNat_natCast, rd_nat', getD_zero', Bool.not_true, Bool.not_false, Bool.false_eq_true, decide_true, decide_false]
   unfold sumFrom
   by_cases hx : inB (cols.getD i 0) 0 (((c.getD i []).length : Int) - 1) = true
   ·have h4 := cost_at f hi hx
    obtain ⟨x, hxx⟩ : ∃ x : Nat, cols.getD i 0 = (x : Int) := ⟨(cols.getD i 0).toNat, by omega⟩
    rw [hxx] at h4 hx ⊢
    have hb := bit_in s x hs (by omega)
    have hc : (cols.take i).contains (x : Int) = s.testBit x := by rw [Bool.eq_iff_iff, hm, List.contains_iff_mem]
    rw [rd_nat'] at h4
    simp (disch := omega) only [hx, ↓if_pos, ↓if_neg, if_pos, if_neg, decide_eq_true_eq, ↓reduceIte, ↓wrap_sc, wrap_id, some_bind, Int.toNat_natCast, rd_nat', getD_zero', Bool.not_true, Bool.not_false, Bool.false_eq_true, decide_true, decide_false]
    rw [hc]
    by_cases ht : s.testBit x = true
    ·simp (disch := omega) only [hb.2 ht, ht, ↓if_pos, ↓if_neg, if_pos, if_neg, decide_eq_true_eq, ↓reduceIte, ↓wrap_sc, wrap_id, some_bind, Int.toNat_natCast, rd_nat', getD_zero', Bool.not_true, Bool.not_false, Bool.false_eq_true, decide_true, decide_false]
     exact Ev.now _
    ·have hp := bit_put s x hs (by omega)
     rw [hp.1]
     simp (disch := omega) only [ht, mt hb.1 ht, ↓if_pos, ↓if_neg, if_pos, if_neg, decide_eq_true_eq, ↓reduceIte, ↓wrap_sc, wrap_id, some_bind, Int.toNat_natCast, rd_nat', getD_zero', Bool.not_true, Bool.not_false, Bool.false_eq_true, decide_true, decide_false]
     refine impl_SumOf_l0 c cols f hl d (i + 1) _ _ (by omega) (by omega) (by omega) hp.2 fun j => ?_
     rw [bit_put_mem, Bool.or_eq_true, hm, decide_eq_true_eq, List.take_succ_eq_append_getElem (by omega), List.mem_append, List.mem_singleton]
     rw [getD_at (by omega)] at hxx
     rw [hxx]
     exact or_congr Iff.rfl ⟨fun h9 => by omega, fun h9 => by omega⟩
   ·rw [Bool.not_eq_true] at hx
    simp (disch := omega) only [hx, ↓if_pos, ↓if_neg, if_pos, if_neg, decide_eq_true_eq, ↓reduceIte, ↓wrap_sc, wrap_id, some_bind, Int.toNat_natCast, rd_nat', getD_zero', Bool.not_true, Bool.not_false, Bool.false_eq_true, decide_true, decide_false]
    exact Ev.now _)
theorem impl_SumOf_f (c : List (List Int)) (cols : List Int) (hn : cols.length ≤ BIG) : Ev (fun k => impl_SumOf.f k c cols) (sumOf c cols) := by
 unfold impl_SumOf.f sumOf
 refine Ev.bind (impl_CostsOk_f c) ?_
 by_cases h : costsOk c = true
 ·have f := costsOk_facts h
  simp (disch := omega) only [h, ↓if_pos, ↓if_neg, if_pos, if_neg, decide_eq_true_eq, ↓reduceIte, ↓wrap_sc, wrap_id, some_bind, Int.toNat_natCast, rd_nat', getD_zero', Bool.not_true, Bool.not_false, Bool.false_eq_true, decide_true, decide_false]
  refine Ev.unroll ?_
  by_cases hl : cols.length = c.length
  ·simp (disch := omega) only [impl_SumOf.j0, hl, bne_self_eq_false, ↓if_pos, ↓if_neg, if_pos, if_neg, decide_eq_true_eq, ↓reduceIte, ↓wrap_sc, wrap_id, some_bind, Int.toNat_natCast, rd_nat', getD_zero', Bool.not_true, Bool.not_false, Bool.false_eq_true, decide_true, decide_false]
   have := impl_SumOf_l0 c cols f hl c.length 0 0 0 (by omega) (by omega) (by omega) (by decide) (fun j => by simp)
   rw [hl] at this
   exact this
  ·simp (disch := omega) only [impl_SumOf.j0, show ((cols.length : Int) != (c.length : Int)) = true by simp; omega, ↓if_pos, ↓if_neg, if_pos, if_neg, decide_eq_true_eq, ↓reduceIte, ↓wrap_sc, wrap_id, some_bind, Int.toNat_natCast, rd_nat', getD_zero', Bool.not_true, Bool.not_false, Bool.false_eq_true, decide_true, decide_false]
   exact Ev.now _
 ·simp (disch := omega) only [h, ↓if_pos, ↓if_neg, if_pos, if_neg, decide_eq_true_eq, ↓reduceIte, ↓wrap_sc, wrap_id, some_bind, Int.toNat_natCast, rd_nat', getD_zero', Bool.not_true, Bool.not_false, Bool.false_eq_true, decide_true, decide_false]
  refine Ev.unroll ?_
  simp (disch := omega) only [impl_SumOf.j0, ↓if_pos, ↓if_neg, if_pos, if_neg, decide_eq_true_eq, ↓reduceIte, ↓wrap_sc, wrap_id, some_bind, Int.toNat_natCast, rd_nat', getD_zero', Bool.not_true, Bool.not_false, Bool.false_eq_true, decide_true, decide_false]
  exact Ev.now _

structure Mat (c : List (List Int)) (n m : Nat) : Prop where
 len : c.length = n
 n1 : 1 ≤ n
 nm : n ≤ m
 m10 : m ≤ 10
 row : ∀ i : Nat, i < n → (c.getD i []).length = m
 cost : ∀ i j : Nat, i < n → j < m → 0 ≤ (c.getD i []).getD j 0 ∧ (c.getD i []).getD j 0 ≤ 100000
def ca (c : List (List Int)) (r j : Int) : Int := rd (rd_L1 c (r - 1)) (j - 1)
theorem ca_facts {c : List (List Int)} {n m : Nat} (f : Mat c n m) {r j : Int} (h1 : 1 ≤ r) (h2 : r ≤ n) (h3 : 1 ≤ j) (h4 : j ≤ m) : (rd_L1 c (r - 1)).length = m ∧ 0 ≤ ca c r j ∧ ca c r j ≤ 100000 := by
 obtain ⟨i, hi⟩ : ∃ i : Nat, r - 1 = (i : Int) := ⟨(r - 1).toNat, by omega⟩
 obtain ⟨q, hq⟩ : ∃ q : Nat, j - 1 = (q : Int) := ⟨(j - 1).toNat, by omega⟩
 have a := f.row i (by omega)
 have b := f.cost i q (by omega) (by omega)
 unfold ca
 rw [hi, hq, rdSS_n, rd_nat']
 exact ⟨a, b⟩
theorem rd_set {xs : List Int} {i : Int} {x : Int} (h0 : 0 ≤ i) (h1 : i < (xs.length : Int)) {j : Int} (hj : 0 ≤ j) : rd (xs.set i.toNat x) j = if j = i then x else rd xs j := by
 unfold rd
 rw [List.getD_eq_getElem?_getD, List.getElem?_set, List.getD_eq_getElem?_getD]
 by_cases e : j = i
 ·subst e; rw [if_pos rfl, if_pos rfl, if_pos (by omega)]; rfl
 ·rw [if_neg (by omega), if_neg e]
theorem rdb_set {xs : List Bool} {i : Int} (h0 : 0 ≤ i) (h1 : i < (xs.length : Int)) {j : Int} (hj : 0 ≤ j) : rdOf false (xs.set i.toNat true) j = if j = i then true else rdOf false xs j := by
 unfold rdOf
 rw [List.getD_eq_getElem?_getD, List.getElem?_set, List.getD_eq_getElem?_getD]
 by_cases e : j = i
 ·subst e; rw [if_pos rfl, if_pos rfl, if_pos (by omega)]; rfl
 ·rw [if_neg (by omega), if_neg e]
structure Du (c : List (List Int)) (n m : Nat) (who u v : List Int) : Prop where
 lu : u.length = n + 1
 lv : v.length = m + 1
 lw : who.length = m + 1
 feas : ∀ r j : Int, 1 ≤ r → r ≤ n → 1 ≤ j → j ≤ m → rd u r + rd v j ≤ ca c r j
 tight : ∀ j : Int, 1 ≤ j → j ≤ m → rd who j ≠ 0 → ca c (rd who j) j = rd u (rd who j) + rd v j
 neg : ∀ j : Int, 1 ≤ j → j ≤ m → -100000 ≤ rd v j ∧ rd v j ≤ 0
 free : ∀ j : Int, 1 ≤ j → j ≤ m → rd who j = 0 → rd v j = 0
 pos : ∀ r : Int, 1 ≤ r → r ≤ n → 0 ≤ rd u r ∧ rd u r ≤ 100000
structure Ma (m : Nat) (i : Int) (who : List Int) : Prop where
 rng : ∀ j : Int, 1 ≤ j → j ≤ m → 0 ≤ rd who j ∧ rd who j ≤ i
 inj : ∀ j k : Int, 1 ≤ j → j ≤ m → 1 ≤ k → k ≤ m → rd who j ≠ 0 → rd who j = rd who k → j = k
 sur : ∀ r : Int, 1 ≤ r → r ≤ i → ∃ j : Int, 1 ≤ j ∧ j ≤ m ∧ rd who j = r
theorem nodup_in : ∀ (a b : List Int), a.Nodup → (∀ x ∈ a, x ∈ b) → a.length ≤ b.length
 | [], b, _, _ => by simp
 | x :: t, b, h, hs => by
  have hx := hs x List.mem_cons_self
  have hn := List.nodup_cons.1 h
  have ih := nodup_in t (b.erase x) hn.2 (fun y hy => by
   have : y ≠ x := fun e => hn.1 (e ▸ hy)
   exact (List.mem_erase_of_ne this).2 (hs y (List.mem_cons_of_mem _ hy)))
  have hl := List.length_erase_of_mem hx
  have := List.length_pos_of_mem hx
  simp only [List.length_cons]
  omega
theorem Ma.free {m : Nat} {i : Int} {who : List Int} (M : Ma m i who) (h0 : 0 ≤ i) (h : i < m) : ∃ j : Int, 1 ≤ j ∧ j ≤ m ∧ rd who j = 0 := by
 refine Classical.byContradiction fun hn => ?_
 have hall : ∀ j : Int, 1 ≤ j → j ≤ m → rd who j ≠ 0 := fun j h1 h2 h3 => hn ⟨j, h1, h2, h3⟩
 have hnd : ((List.range m).map (fun j : Nat => rd who ((j : Int) + 1))).Nodup := by
  unfold List.Nodup
  rw [List.pairwise_map]
  refine List.pairwise_lt_range.imp_of_mem ?_
  intro a b ha hb hab e
  rw [List.mem_range] at ha hb
  have := M.inj ((a : Int) + 1) ((b : Int) + 1) (by omega) (by omega) (by omega) (by omega) (hall _ (by omega) (by omega)) e
  omega
 have := nodup_in _ ((List.range i.toNat).map (fun j : Nat => ((j : Int) + 1))) hnd (fun x hx => by
  obtain ⟨a, ha, rfl⟩ := List.mem_map.1 hx
  rw [List.mem_range] at ha
  have h1 := M.rng ((a : Int) + 1) (by omega) (by omega)
  have h2 := hall ((a : Int) + 1) (by omega) (by omega)
  exact List.mem_map.2 ⟨(rd who ((a : Int) + 1)).toNat - 1, by rw [List.mem_range]; omega, by omega⟩)
 simp only [List.length_map, List.length_range] at this
 omega
structure Hole (c : List (List Int)) (n m : Nat) (i : Int) (who0 who u v from_ : List Int) (used : Int → Bool) (rk : Int → Nat) (j : Int) : Prop where
 lw : who.length = m + 1
 j0 : 0 ≤ j ∧ j ≤ m
 rng : ∀ k : Int, 0 ≤ k → k ≤ m → 0 ≤ rd who k ∧ rd who k ≤ i
 inj : ∀ k l : Int, 1 ≤ k → k ≤ m → 1 ≤ l → l ≤ m → k ≠ j → l ≠ j → rd who k ≠ 0 → rd who k = rd who l → k = l
 tight : ∀ k : Int, 1 ≤ k → k ≤ m → k ≠ j → rd who k ≠ 0 → ca c (rd who k) k = rd u (rd who k) + rd v k
 free : ∀ k : Int, 1 ≤ k → k ≤ m → rd who k = 0 → rd v k = 0
 sur : ∀ r : Int, 1 ≤ r → r ≤ i → (r = i → j = 0) → ∃ k : Int, 1 ≤ k ∧ k ≤ m ∧ k ≠ j ∧ rd who k = r
 noti : j ≠ 0 → ∀ k : Int, 1 ≤ k → k ≤ m → k ≠ j → rd who k ≠ i
 same : ∀ k : Int, 0 ≤ k → k ≤ m → rk k ≤ rk j → rd who k = rd who0 k
 edge : j ≠ 0 → (0 ≤ rd from_ j ∧ rd from_ j ≤ m) ∧ used (rd from_ j) = true ∧ ca c (rd who0 (rd from_ j)) j = rd u (rd who0 (rd from_ j)) + rd v j ∧ rk (rd from_ j) < rk j
theorem grow_l4 {c : List (List Int)} {n m : Nat} {i : Int} {who0 u v from_ : List Int} {used : Int → Bool} {rk : Int → Nat} (hm : m ≤ 10) (hi : 1 ≤ i) (hw0 : rd who0 0 = i) (hf : from_.length = m + 1)
  (uw : ∀ j : Int, 0 ≤ j → j ≤ m → used j = true → rd who0 j ≠ 0)
  (tree : ∀ j : Int, 1 ≤ j → j ≤ m → used j = true → (0 ≤ rd from_ j ∧ rd from_ j ≤ m) ∧ used (rd from_ j) = true ∧ ca c (rd who0 (rd from_ j)) j = rd u (rd who0 (rd from_ j)) + rd v j ∧ rk (rd from_ j) < rk j) :
  ∀ (N : Nat) (who : List Int) (j : Int), rk j = N → Hole c n m i who0 who u v from_ used rk j → ∃ who' : List Int, Ev (fun k => spec_l4Grow.l4 k u v who from_ j) (u, v, who') ∧ who'.length = m + 1 ∧ Ma m i who' ∧
   (∀ k : Int, 1 ≤ k → k ≤ m → rd who' k ≠ 0 → ca c (rd who' k) k = rd u (rd who' k) + rd v k) ∧ (∀ k : Int, 1 ≤ k → k ≤ m → rd who' k = 0 → rd v k = 0) := by
 intro N
 induction N using Nat.strongRecOn with
 | _ N IH =>
 intro who j hN H
 by_cases h0 : j = 0
 ·subst h0
  refine ⟨who, Ev.unroll ?_, H.lw, ⟨fun k h1 h2 => H.rng k (by omega) h2, fun k l h1 h2 h3 h4 h5 h6 => H.inj k l h1 h2 h3 h4 (by omega) (by omega) h5 h6, fun r h1 h2 => ?_⟩, fun k h1 h2 h3 => H.tight k h1 h2 (by omega) h3, H.free⟩
  ·simp only [spec_l4Grow.l4]
   exact Ev.ifp trivial (Ev.now _)
  ·obtain ⟨k, a, b, _, d⟩ := H.sur r h1 h2 (fun _ => rfl)
   exact ⟨k, a, b, d⟩
 ·obtain ⟨hp, hu, ht, hr⟩ := H.edge h0
  have hj := H.j0
  have hlw := H.lw
  have hsp := H.same (rd from_ j) hp.1 hp.2 (by omega)
  have hpj : rd from_ j ≠ j := fun e => by rw [e] at hr; omega
  have hwp := uw _ hp.1 hp.2 hu
  have hrp := H.rng (rd from_ j) hp.1 hp.2
  have hset : ∀ k : Int, 0 ≤ k → rd (who.set j.toNat (rd who (rd from_ j))) k = if k = j then rd who (rd from_ j) else rd who k := fun k hk => rd_set hj.1 (by omega) hk
  have H2 : Hole c n m i who0 (who.set j.toNat (rd who (rd from_ j))) u v from_ used rk (rd from_ j) := by
   generalize hpp : rd from_ j = p at *
   refine ⟨by rw [List.length_set]; exact hlw, hp, fun k h1 h2 => ?_, fun k l h1 h2 h3 h4 h5 h6 h7 h8 => ?_, fun k h1 h2 h3 h4 => ?_, fun k h1 h2 h3 => ?_, fun r h1 h2 h3 => ?_, fun hp0 k h1 h2 h3 => ?_, fun k h1 h2 h3 => ?_, fun hp0 => ?_⟩
   ·rw [hset k h1]; split
    ·exact hrp
    ·exact H.rng k h1 h2
   ·rw [hset k (by omega)] at h7 h8
    rw [hset l (by omega)] at h8
    by_cases ek : k = j
    ·by_cases el : l = j
     ·omega
     ·rw [if_pos ek, if_neg el] at h8
      exfalso
      by_cases p0 : p = 0
      ·rw [hsp, p0, hw0] at h8
       exact H.noti h0 l h3 h4 el h8.symm
      ·exact h6 (H.inj p l (by omega) (by omega) h3 h4 hpj el (by rw [hsp]; exact hwp) h8).symm
    ·rw [if_neg ek] at h7 h8
     by_cases el : l = j
     ·rw [if_pos el] at h8
      exfalso
      by_cases p0 : p = 0
      ·rw [hsp, p0, hw0] at h8
       exact H.noti h0 k h1 h2 ek h8
      ·exact h5 (H.inj k p h1 h2 (by omega) (by omega) ek hpj h7 h8)
     ·rw [if_neg el] at h8
      exact H.inj k l h1 h2 h3 h4 ek el h7 h8
   ·rw [hset k (by omega)] at h4 ⊢
    by_cases ek : k = j
    ·rw [if_pos ek, hsp, ek]; exact ht
    ·rw [if_neg ek] at h4 ⊢; exact H.tight k h1 h2 ek h4
   ·rw [hset k (by omega)] at h3
    by_cases ek : k = j
    ·rw [if_pos ek, hsp] at h3; exact absurd h3 hwp
    ·rw [if_neg ek] at h3; exact H.free k h1 h2 h3
   ·by_cases p0 : p = 0
    ·by_cases ri : r = i
     ·exact ⟨j, by omega, hj.2, fun e => hpj e.symm, by rw [hset j (by omega), if_pos rfl, hsp, p0, hw0, ri]⟩
     ·obtain ⟨k, a, b, d, e⟩ := H.sur r h1 h2 (fun e => absurd e ri)
      exact ⟨k, a, b, by omega, by rw [hset k (by omega), if_neg d]; exact e⟩
    ·have ri : r ≠ i := fun e => p0 (h3 e)
     obtain ⟨k, a, b, d, e⟩ := H.sur r h1 h2 (fun e => absurd e ri)
     by_cases kp : k = p
     ·exact ⟨j, by omega, hj.2, fun e => hpj e.symm, by rw [hset j (by omega), if_pos rfl, ← kp]; exact e⟩
     ·exact ⟨k, a, b, kp, by rw [hset k (by omega), if_neg d]; exact e⟩
   ·rw [hset k (by omega)]
    by_cases ek : k = j
    ·rw [if_pos ek]; exact H.noti h0 p (by omega) (by omega) hpj
    ·rw [if_neg ek]; exact H.noti h0 k h1 h2 ek
   ·rw [hset k h1, if_neg (fun e => by subst e; omega)]
    exact H.same k h1 h2 (by omega)
   ·exact tree p (by omega) hp.2 hu
  obtain ⟨who', e1, e2⟩ := IH (rk (rd from_ j)) (by omega) _ (rd from_ j) rfl H2
  refine ⟨who', Ev.unroll ?_, e2⟩
  simp only [spec_l4Grow.l4]
  exact Ev.ifn h0 (Ev.ifp hj.1 (Ev.ifp (by omega) (Ev.ifp hp.1 (Ev.ifp (by omega) (Ev.ifp (by omega) e1)))))

def EvP {α : Type} (g : Nat → Option α) (P : α → Prop) : Prop := ∃ r, Ev g r ∧ P r
theorem EvP.unroll {α : Type} {g : Nat → Option α} {P : α → Prop} (h : EvP (fun k => g (k + 1)) P) : EvP g P := by
 obtain ⟨r, e, p⟩ := h; exact ⟨r, Ev.unroll e, p⟩
theorem EvP.ifp {α : Type} {c : Prop} [Decidable c] {g h : Nat → Option α} {P : α → Prop} (hc : c) (e : EvP g P) : EvP (fun k => if c then g k else h k) P := by
 obtain ⟨r, e, p⟩ := e; exact ⟨r, Ev.ifp hc e, p⟩
theorem EvP.ifn {α : Type} {c : Prop} [Decidable c] {g h : Nat → Option α} {P : α → Prop} (hc : ¬ c) (e : EvP h P) : EvP (fun k => if c then g k else h k) P := by
 obtain ⟨r, e, p⟩ := e; exact ⟨r, Ev.ifn hc e, p⟩
theorem evP_ite {α : Type} {c : Prop} [Decidable c] {g h : Nat → Option α} {P : α → Prop} (h1 : c → EvP g P) (h2 : ¬ c → EvP h P) : EvP (fun k => if c then g k else h k) P := by
 by_cases hc : c
 ·exact EvP.ifp hc (h1 hc)
 ·exact EvP.ifn hc (h2 hc)
abbrev FAR : Int := 1099511627776
structure Scan (m : Nat) (least from_ : List Int) (used : List Bool) (sl : Int → Int) (j0 : Int) (q : Nat) (ls fr : List Int) (dl j1 : Int) : Prop where
 ll : ls.length = m + 1
 lf : fr.length = m + 1
 past : ∀ j : Int, 1 ≤ j → j < q → rdOf false used j = false → rd ls j = (if sl j < rd least j then sl j else rd least j) ∧ rd fr j = if sl j < rd least j then j0 else rd from_ j
 rest : ∀ j : Int, 0 ≤ j → (rdOf false used j = true ∨ (q : Int) ≤ j ∨ j = 0) → rd ls j = rd least j ∧ rd fr j = rd from_ j
 low : ∀ j : Int, 1 ≤ j → j < q → rdOf false used j = false → dl ≤ rd ls j
 arg : (dl = FAR ∧ j1 = 0 ∧ ∀ j : Int, 1 ≤ j → j < q → rdOf false used j = true) ∨ (1 ≤ j1 ∧ j1 < q ∧ rdOf false used j1 = false ∧ dl = rd ls j1)
theorem grow_l2 {c : List (List Int)} {n m : Nat} (f : Mat c n m) {u v who least from_ : List Int} {used : List Bool} {j0 i0 : Int} {P : List Int × List Int × List Int → Prop}
  (lu : u.length = n + 1) (lv : v.length = m + 1) (lus : used.length = m + 1) (hi0 : 1 ≤ i0 ∧ i0 ≤ n)
  (hu : 0 ≤ rd u i0 ∧ rd u i0 ≤ 100000) (hv : ∀ j : Int, 1 ≤ j → j ≤ m → -100000 ≤ rd v j ∧ rd v j ≤ 0) (hle : ∀ j : Int, 1 ≤ j → j ≤ m → rdOf false used j = false → ca c i0 j - rd u i0 - rd v j < FAR)
  (K : ∀ (ls fr : List Int) (dl j1 : Int), Scan m least from_ used (fun j => ca c i0 j - rd u i0 - rd v j) j0 (m + 1) ls fr dl j1 → EvP (fun k => spec_l4Grow.l3 k c u v who m FAR ls fr used dl j1 0) P) :
  ∀ (d q : Nat) (ls fr : List Int) (dl j1 : Int), q + d = m + 1 → 1 ≤ q → Scan m least from_ used (fun j => ca c i0 j - rd u i0 - rd v j) j0 q ls fr dl j1 → EvP (fun k => spec_l4Grow.l2 k c u v who m FAR ls fr used j0 i0 dl j1 q) P := by
 intro d
 induction d with
 | zero =>
  intro q ls fr dl j1 e hq S
  obtain rfl : q = m + 1 := by omega
  refine EvP.unroll ?_
  simp only [spec_l4Grow.l2]
  exact EvP.ifn (by omega) (K ls fr dl j1 S)
 | succ d ih =>
  intro q ls fr dl j1 e hq S
  have hm := f.m10
  have hlen := f.len
  have hll := S.ll
  have hlf := S.lf
  have cf := ca_facts f hi0.1 hi0.2 (show (1 : Int) ≤ (q : Int) by omega) (show (q : Int) ≤ m by omega)
  have hvq := hv q (by omega) (by omega)
  have hnm := f.nm
  have hm1 : wrap64 ((q : Int) - 1) = (q : Int) - 1 := wrap_id (by omega) (by omega)
  have hi1 : wrap64 (i0 - 1) = i0 - 1 := wrap_id (by omega) (by omega)
  refine EvP.unroll ?_
  simp only [spec_l4Grow.l2, hm1, hi1, wrap_sc (show q < 9223372036854775807 by omega)]
  have hsl : wrap64 (wrap64 (rd (rd_L1 c (i0 - 1)) ((q : Int) - 1) - rd u i0) - rd v q) = ca c i0 q - rd u i0 - rd v q := by
   have : rd (rd_L1 c (i0 - 1)) ((q : Int) - 1) = ca c i0 q := rfl
   rw [this, wrap_id (x := ca c i0 q - rd u i0) (by omega) (by omega), wrap_id (by omega) (by omega)]
  rw [hsl]
  refine EvP.ifp (by omega) (EvP.ifp (by omega) (EvP.ifp (by omega) ?_))
  by_cases hus : rdOf false used (q : Int) = true
  ·refine EvP.ifp hus (ih (q + 1) ls fr dl j1 (by omega) (by omega) ⟨hll, hlf, fun j h1 h2 h3 => S.past j h1 (by
    by_cases ej : j = q
    ·subst ej; rw [hus] at h3; cases h3
    ·omega) h3, fun j h1 h2 => S.rest j h1 (by
    rcases h2 with h | h | h
    ·exact .inl h
    ·exact .inr (.inl (by omega))
    ·exact .inr (.inr h)), fun j h1 h2 h3 => S.low j h1 (by
    by_cases ej : j = q
    ·subst ej; rw [hus] at h3; cases h3
    ·omega) h3, ?_⟩)
   rcases S.arg with ⟨a, b, h⟩ | ⟨a, b, h⟩
   ·exact .inl ⟨a, b, fun j h1 h2 => by
     by_cases ej : j = q
     ·subst ej; exact hus
     ·exact h j h1 (by omega)⟩
   ·exact .inr ⟨a, by omega, h⟩
  ·have hus' : rdOf false used (q : Int) = false := by simpa using hus
   refine EvP.ifn hus (EvP.ifp (by omega) (EvP.ifp (by omega) (EvP.ifp (by omega) (EvP.ifp (by rw [cf.1]; omega) (EvP.ifp (by omega) (EvP.ifp (by omega) (EvP.ifp (by omega) (EvP.ifp (by omega) ?_))))))))
   have hold := S.rest q (by omega) (.inr (.inl (by omega)))
   have hfar := hle q (by omega) (by omega) hus'
   -- the state behind this column
   have next : ∀ (ls' fr' : List Int), ls'.length = m + 1 → fr'.length = m + 1 → (∀ j : Int, 0 ≤ j → j ≠ q → rd ls' j = rd ls j ∧ rd fr' j = rd fr j) →
     rd ls' q = (if ca c i0 q - rd u i0 - rd v q < rd least q then ca c i0 q - rd u i0 - rd v q else rd least q) → rd fr' q = (if ca c i0 q - rd u i0 - rd v q < rd least q then j0 else rd from_ q) →
     EvP (fun k => if rd ls' q < dl then spec_l4Grow.l2 k c u v who m FAR ls' fr' used j0 i0 (rd ls' q) q ((q + 1 : Nat) : Int) else spec_l4Grow.l2 k c u v who m FAR ls' fr' used j0 i0 dl j1 ((q + 1 : Nat) : Int)) P := by
    intro ls' fr' hl1 hl2 hot hq1 hq2
    have past : ∀ j : Int, 1 ≤ j → j < ((q + 1 : Nat) : Int) → rdOf false used j = false → rd ls' j = (if ca c i0 j - rd u i0 - rd v j < rd least j then ca c i0 j - rd u i0 - rd v j else rd least j) ∧ rd fr' j = if ca c i0 j - rd u i0 - rd v j < rd least j then j0 else rd from_ j := fun j h1 h2 h3 => by
     by_cases ej : j = q
     ·subst ej; exact ⟨hq1, hq2⟩
     ·have := S.past j h1 (by omega) h3
      rw [(hot j (by omega) ej).1, (hot j (by omega) ej).2]; exact this
    have rest : ∀ j : Int, 0 ≤ j → (rdOf false used j = true ∨ ((q + 1 : Nat) : Int) ≤ j ∨ j = 0) → rd ls' j = rd least j ∧ rd fr' j = rd from_ j := fun j h1 h2 => by
     have ej : j ≠ q := by
      rintro rfl
      rcases h2 with h | h | h
      ·rw [hus'] at h; cases h
      ·omega
      ·omega
     rw [(hot j h1 ej).1, (hot j h1 ej).2]
     exact S.rest j h1 (by
      rcases h2 with h | h | h
      ·exact .inl h
      ·exact .inr (.inl (by omega))
      ·exact .inr (.inr h))
    refine evP_ite (fun hlt => ?_) (fun hlt => ?_)
    ·refine ih (q + 1) ls' fr' _ _ (by omega) (by omega) ⟨hl1, hl2, past, rest, fun j h1 h2 h3 => ?_, .inr ⟨by omega, by omega, hus', rfl⟩⟩
     by_cases ej : j = q
     ·subst ej; exact Int.le_refl _
     ·have := S.low j h1 (by omega) h3
      rw [(hot j (by omega) ej).1]; omega
    ·refine ih (q + 1) ls' fr' _ _ (by omega) (by omega) ⟨hl1, hl2, past, rest, fun j h1 h2 h3 => ?_, ?_⟩
     ·by_cases ej : j = q
      ·subst ej; omega
      ·have := S.low j h1 (by omega) h3
       rw [(hot j (by omega) ej).1]; exact this
     ·rcases S.arg with ⟨a, b, h⟩ | ⟨a, b, h1, h2⟩
      ·exfalso
       rw [a, hq1] at hlt
       split at hlt <;> omega
      ·refine .inr ⟨a, by omega, h1, ?_⟩
       rw [(hot j1 (by omega) (by omega)).1]; exact h2
   have hls : rd ls q = rd least q := hold.1
   by_cases hc : ca c i0 q - rd u i0 - rd v q < rd least q
   ·refine EvP.ifp (by rw [hls]; exact hc) ?_
    simp only [some_bind]
    refine EvP.ifp (by omega) ?_
    refine next (ls.set (q : Int).toNat (ca c i0 q - rd u i0 - rd v q)) (fr.set (q : Int).toNat j0) (by rw [List.length_set]; exact hll) (by rw [List.length_set]; exact hlf) (fun j h1 h2 => ?_) ?_ ?_
    ·rw [rd_set (by omega) (by omega) h1, rd_set (by omega) (by omega) h1, if_neg h2, if_neg h2]; exact ⟨rfl, rfl⟩
    ·rw [rd_set (by omega) (by omega) (by omega), if_pos rfl, if_pos hc]
    ·rw [rd_set (by omega) (by omega) (by omega), if_pos rfl, if_pos hc]
   ·exact EvP.ifn (by rw [hls]; exact hc) (next ls fr hll hlf (fun j h1 h2 => ⟨rfl, rfl⟩) (by rw [if_neg hc]; exact hold.1) (by rw [if_neg hc]; exact hold.2))
structure Turned (n m : Nat) (u v who ls : List Int) (used : List Bool) (dl : Int) (q : Nat) (uu vv le : List Int) : Prop where
 lu : uu.length = n + 1
 lv : vv.length = m + 1
 ll : le.length = m + 1
 ua : ∀ j : Int, 0 ≤ j → j < q → rdOf false used j = true → rd uu (rd who j) = rd u (rd who j) + dl
 ub : ∀ r : Int, 1 ≤ r → r ≤ n → (∀ j : Int, 0 ≤ j → j < q → rdOf false used j = true → rd who j ≠ r) → rd uu r = rd u r
 va : ∀ j : Int, 1 ≤ j → j ≤ m → rd vv j = if j < q ∧ rdOf false used j = true then rd v j - dl else rd v j
 la : ∀ j : Int, 1 ≤ j → j ≤ m → rdOf false used j = false → rd le j = if j < q then rd ls j - dl else rd ls j
theorem grow_l3 {c : List (List Int)} {n m : Nat} (f : Mat c n m) {u v who ls fr : List Int} {used : List Bool} {dl j1 : Int} {P : List Int × List Int × List Int → Prop}
  (lw : who.length = m + 1) (lus : used.length = m + 1) (hdl : 0 ≤ dl ∧ dl ≤ 300000) (hw : ∀ j : Int, 0 ≤ j → j ≤ m → rdOf false used j = true → 1 ≤ rd who j ∧ rd who j ≤ n)
  (inj : ∀ j k : Int, 0 ≤ j → j ≤ m → 0 ≤ k → k ≤ m → rdOf false used j = true → rdOf false used k = true → rd who j = rd who k → j = k)
  (hu : ∀ r : Int, 1 ≤ r → r ≤ n → 0 ≤ rd u r ∧ rd u r ≤ 100000) (hv : ∀ j : Int, 1 ≤ j → j ≤ m → -100000 ≤ rd v j ∧ rd v j ≤ 0) (hls : ∀ j : Int, 1 ≤ j → j ≤ m → rdOf false used j = false → 0 ≤ rd ls j ∧ rd ls j ≤ FAR)
  (K : ∀ (uu vv le : List Int), Turned n m u v who ls used dl (m + 1) uu vv le → EvP (fun k => if 0 ≤ j1 then (if j1 < (who.length : Int) then (if rd who j1 = 0 then spec_l4Grow.l4 k uu vv who fr j1 else spec_l4Grow.l1 k c uu vv who m FAR le fr used j1) else none) else none) P) :
  ∀ (d q : Nat) (uu vv le : List Int), q + d = m + 1 → Turned n m u v who ls used dl q uu vv le → EvP (fun k => spec_l4Grow.l3 k c uu vv who m FAR le fr used dl j1 q) P := by
 intro d
 induction d with
 | zero =>
  intro q uu vv le e T
  obtain rfl : q = m + 1 := by omega
  refine EvP.unroll ?_
  simp only [spec_l4Grow.l3]
  exact EvP.ifn (by omega) (K uu vv le T)
 | succ d ih =>
  intro q uu vv le e T
  have hm := f.m10
  have hnm := f.nm
  have h1 := T.lu
  have h2 := T.lv
  have h3 := T.ll
  refine EvP.unroll ?_
  simp only [spec_l4Grow.l3, wrap_sc (show q < 9223372036854775807 by omega)]
  refine EvP.ifp (by omega) (EvP.ifp (by omega) (EvP.ifp (by omega) ?_))
  by_cases hus : rdOf false used (q : Int) = true
  ·have hwq := hw q (by omega) (by omega) hus
   have huq := hu _ hwq.1 hwq.2
   have heq : rd uu (rd who q) = rd u (rd who q) := T.ub _ hwq.1 hwq.2 (fun j a b d e => by
    have := inj j q a (by omega) (by omega) (by omega) d hus e
    omega)
   rw [heq, wrap_id (x := rd u (rd who q) + dl) (by omega) (by omega)]
   refine EvP.ifp hus (EvP.ifp (by omega) (EvP.ifp (by omega) (EvP.ifp (by omega) (EvP.ifp (by omega) ?_))))
   refine ih (q + 1) _ _ le (by omega) ⟨by rw [List.length_set]; exact h1, by rw [List.length_set]; exact h2, h3, fun j a b d => ?_, fun r a b d => ?_, fun j a b => ?_, fun j a b d => ?_⟩
   ·have hwj := hw j a (by omega) d
    rw [rd_set (by omega) (by omega) (by omega)]
    by_cases ej : j = q
    ·subst ej; rw [if_pos rfl]
    ·rw [if_neg (fun e => ej (inj j q a (by omega) (by omega) (by omega) d hus e))]
     exact T.ua j a (by omega) d
   ·rw [rd_set (by omega) (by omega) (by omega), if_neg (fun e => d q (by omega) (by omega) hus e.symm)]
    exact T.ub r a b (fun j a b e => d j a (by omega) e)
   ·rw [rd_set (by omega) (by omega) (by omega)]
    by_cases ej : j = q
    ·subst ej
     have := T.va q a b
     rw [if_neg (fun h => by omega)] at this
     have hvq := hv q a b
     rw [if_pos rfl, if_pos ⟨by omega, hus⟩, this, wrap_id (by omega) (by omega)]
    ·rw [if_neg ej, T.va j a b]
     by_cases hj : j < (q : Int) ∧ rdOf false used j = true
     ·rw [if_pos hj, if_pos ⟨by omega, hj.2⟩]
     ·rw [if_neg hj, if_neg (fun h => hj ⟨by omega, h.2⟩)]
   ·rw [T.la j a b d]
    by_cases hj : j < (q : Int)
    ·rw [if_pos hj, if_pos (by omega)]
    ·rw [if_neg hj, if_neg (fun h => by
      have : j = q := by omega
      subst this; rw [hus] at d; cases d)]
  ·have hus' : rdOf false used (q : Int) = false := by simpa using hus
   refine EvP.ifn hus (EvP.ifp (by omega) ?_)
   refine ih (q + 1) uu vv _ (by omega) ⟨h1, h2, by rw [List.length_set]; exact h3, fun j a b d => T.ua j a (by
    by_cases ej : j = q
    ·subst ej; rw [hus'] at d; cases d
    ·omega) d, fun r a b d => T.ub r a b (fun j a b e => d j a (by omega) e), fun j a b => ?_, fun j a b d => ?_⟩
   ·rw [T.va j a b]
    by_cases hj : j < (q : Int) ∧ rdOf false used j = true
    ·rw [if_pos hj, if_pos ⟨by omega, hj.2⟩]
    ·rw [if_neg hj, if_neg (fun h => hj ⟨by
      by_cases ej : j = q
      ·subst ej; rw [hus'] at h; cases h.2
      ·omega, h.2⟩)]
   ·rw [rd_set (by omega) (by omega) (by omega)]
    by_cases ej : j = q
    ·subst ej
     have := T.la q a b d
     rw [if_neg (by omega)] at this
     have hl := hls q a b d
     unfold FAR at hl
     rw [if_pos rfl, if_pos (by omega), this, wrap_id (by omega) (by omega)]
    ·rw [if_neg ej, T.la j a b d]
     by_cases hj : j < (q : Int)
     ·rw [if_pos hj, if_pos (by omega)]
     ·rw [if_neg hj, if_neg (by omega)]

def unusedB (used : List Bool) : Nat := used.countP (fun x => !x)
theorem unusedB_set {used : List Bool} {b : Int} (h0 : 0 ≤ b) (hb : b < (used.length : Int)) (h : rdOf false used b = false) : unusedB (used.set b.toNat true) + 1 = unusedB used := by
 unfold unusedB
 unfold rdOf at h
 rw [getD_at (show b.toNat < used.length by omega)] at h
 have h4 : 0 < used.countP (fun x => !x) := List.countP_pos_iff.2 ⟨used[b.toNat], List.getElem_mem _, by rw [h]; rfl⟩
 rw [List.countP_set (by omega), h]
 simp
 omega
structure GI (c : List (List Int)) (n m : Nat) (i : Int) (u v who least from_ : List Int) (used : List Bool) (j0 : Int) (rk : Int → Nat) (t : Nat) : Prop where
 D : Du c n m who u v
 ll : least.length = m + 1
 lf : from_.length = m + 1
 lus : used.length = m + 1
 j0r : 0 ≤ j0 ∧ j0 ≤ m
 uj0 : rdOf false used j0 = false
 wj0 : rd who j0 ≠ 0
 uw : ∀ j : Int, 0 ≤ j → j ≤ m → rdOf false used j = true → rd who j ≠ 0
 st : (j0 = 0 ∧ (∀ j : Int, 0 ≤ j → j ≤ m → rdOf false used j = false) ∧ ∀ j : Int, 1 ≤ j → j ≤ m → rd least j = FAR) ∨
  (1 ≤ j0 ∧ rdOf false used 0 = true ∧ (∀ j : Int, 1 ≤ j → j ≤ m → rdOf false used j = false → (0 ≤ rd from_ j ∧ rd from_ j ≤ m) ∧ rdOf false used (rd from_ j) = true ∧ rd least j = ca c (rd who (rd from_ j)) j - rd u (rd who (rd from_ j)) - rd v j ∧
   ∀ k : Int, 0 ≤ k → k ≤ m → rdOf false used k = true → rd least j ≤ ca c (rd who k) j - rd u (rd who k) - rd v j) ∧ rd least j0 = 0)
 tree : ∀ j : Int, 1 ≤ j → j ≤ m → rdOf false used j = true → (0 ≤ rd from_ j ∧ rd from_ j ≤ m) ∧ rdOf false used (rd from_ j) = true ∧ ca c (rd who (rd from_ j)) j = rd u (rd who (rd from_ j)) + rd v j ∧ rk (rd from_ j) < rk j
 rkt : ∀ j : Int, 0 ≤ j → j ≤ m → rdOf false used j = true → rk j < t
theorem grow_l1 {c : List (List Int)} {n m : Nat} (f : Mat c n m) {i : Int} (hi : 1 ≤ i ∧ i ≤ n) {who : List Int} (M : Ma m (i - 1) who) (hw0 : rd who 0 = i) :
  ∀ (N : Nat) (u v least from_ : List Int) (used : List Bool) (j0 : Int) (rk : Int → Nat) (t : Nat), unusedB used = N → GI c n m i u v who least from_ used j0 rk t →
   EvP (fun k => spec_l4Grow.l1 k c u v who m FAR least from_ used j0) (fun R => Du c n m R.2.2 R.1 R.2.1 ∧ Ma m i R.2.2) := by
 have hm := f.m10
 have hnm := f.nm
 obtain ⟨f0, hf1, hf2, hf3⟩ := M.free (by omega) (show i - 1 < (m : Int) by omega)
 have wr : ∀ j : Int, 0 ≤ j → j ≤ m → rd who j ≠ 0 → 1 ≤ rd who j ∧ rd who j ≤ i := fun j h1 h2 h3 => by
  by_cases e : j = 0
  ·subst e; rw [hw0]; omega
  ·have := M.rng j (by omega) h2; omega
 have wi : ∀ j k : Int, 0 ≤ j → j ≤ m → 0 ≤ k → k ≤ m → rd who j ≠ 0 → rd who j = rd who k → j = k := fun j k h1 h2 h3 h4 h5 h6 => by
  by_cases ej : j = 0
  ·by_cases ek : k = 0
   ·omega
   ·have := M.rng k (by omega) h4
    rw [ej, hw0] at h6; omega
  ·by_cases ek : k = 0
   ·have := M.rng j (by omega) h2
    rw [ek, hw0] at h6; omega
   ·exact M.inj j k (by omega) h2 (by omega) h4 h5 h6
 intro N
 induction N using Nat.strongRecOn with
 | _ N IH =>
 intro u v least from_ used j0 rk t hN G
 have D := G.D
 have hlus := G.lus
 have hlw := D.lw
 have hlu := D.lu
 have hlv := D.lv
 have hj0 := G.j0r
 have hi0 := wr j0 hj0.1 hj0.2 G.wj0
 have hin : 1 ≤ rd who j0 ∧ rd who j0 ≤ (n : Int) := ⟨hi0.1, by omega⟩
 -- the columns used now
 obtain ⟨us, hus⟩ : ∃ us : List Bool, us = used.set j0.toNat true := ⟨_, rfl⟩
 have husl : us.length = m + 1 := by rw [hus, List.length_set]; exact hlus
 have usat : ∀ j : Int, 0 ≤ j → rdOf false us j = if j = j0 then true else rdOf false used j := fun j h => by rw [hus]; exact rdb_set hj0.1 (by omega) h
 have us0 : rdOf false us j0 = true := by rw [usat j0 hj0.1, if_pos rfl]
 have usup : ∀ j : Int, 0 ≤ j → rdOf false used j = true → rdOf false us j = true := fun j h h2 => by rw [usat j h]; split <;> first | rfl | exact h2
 have usno : ∀ j : Int, 0 ≤ j → rdOf false us j = false → rdOf false used j = false ∧ j ≠ j0 := fun j h h2 => by
  rw [usat j h] at h2
  by_cases e : j = j0
  ·rw [if_pos e] at h2; cases h2
  ·rw [if_neg e] at h2; exact ⟨h2, e⟩
 have usw : ∀ j : Int, 0 ≤ j → j ≤ m → rdOf false us j = true → rd who j ≠ 0 := fun j h1 h2 h3 => by
  rw [usat j h1] at h3
  by_cases e : j = j0
  ·rw [e]; exact G.wj0
  ·rw [if_neg e] at h3; exact G.uw j h1 h2 h3
 have hcnt : unusedB us + 1 = unusedB used := by rw [hus]; exact unusedB_set hj0.1 (by omega) G.uj0
 have f0us : rdOf false us f0 = false := by
  cases h : rdOf false us f0 with
  | false => rfl
  | true => exact absurd hf3 (usw f0 (by omega) hf2 h)
 have slb : ∀ r j : Int, 1 ≤ r → r ≤ n → 1 ≤ j → j ≤ m → 0 ≤ ca c r j - rd u r - rd v j ∧ ca c r j - rd u r - rd v j ≤ 200000 := fun r j a1 a2 a3 a4 => by
  have h1 := D.feas r j a1 a2 a3 a4
  have h2 := ca_facts f a1 a2 a3 a4
  have h3 := D.pos r a1 a2
  have h4 := D.neg j a3 a4
  omega
 have start : Scan m least from_ us (fun j => ca c (rd who j0) j - rd u (rd who j0) - rd v j) j0 1 least from_ FAR 0 :=
  ⟨G.ll, G.lf, fun j a b _ => by omega, fun _ _ _ => ⟨rfl, rfl⟩, fun j a b _ => by omega, .inl ⟨rfl, rfl, fun j a b => by omega⟩⟩
 have us00 : rdOf false us 0 = true := by
  rcases G.st with ⟨e, _⟩ | ⟨_, e, _⟩
  ·rw [← e]; exact us0
  ·exact usup 0 (by omega) e
 refine EvP.unroll ?_
 simp only [spec_l4Grow.l1]
 refine EvP.ifp hj0.1 (EvP.ifp (by omega) (EvP.ifp (by omega) ?_))
 rw [← hus]
 refine grow_l2 (least := least) (from_ := from_) (j0 := j0) f hlu hlv husl hin (D.pos _ hin.1 hin.2) D.neg (fun j a b _ => by have := (slb _ j hin.1 hin.2 a b).2; unfold FAR; omega) (fun ls fr dl j1 S => ?_) m 1 least from_ FAR 0 (by omega) (by omega) start
 -- what the look found
 have sl : ∀ j : Int, 1 ≤ j → j ≤ m → rdOf false us j = false → (0 ≤ rd fr j ∧ rd fr j ≤ m) ∧ rdOf false us (rd fr j) = true ∧ rd ls j = ca c (rd who (rd fr j)) j - rd u (rd who (rd fr j)) - rd v j ∧
   ∀ k : Int, 0 ≤ k → k ≤ m → rdOf false us k = true → rd ls j ≤ ca c (rd who k) j - rd u (rd who k) - rd v j := fun j a b d => by
  have p := S.past j a (by omega) d
  have bb := slb _ j hin.1 hin.2 a b
  rcases G.st with ⟨e0, h1, h2⟩ | ⟨e0, h1, h2, h3⟩
  ·have e2 := h2 j a b
   have hlt : ca c (rd who j0) j - rd u (rd who j0) - rd v j < rd least j := by rw [e2]; unfold FAR; omega
   rw [if_pos hlt, if_pos hlt] at p
   rw [p.1, p.2]
   refine ⟨hj0, us0, rfl, fun k k1 k2 k3 => ?_⟩
   rw [usat k k1] at k3
   by_cases e : k = j0
   ·rw [e]; omega
   ·rw [if_neg e, h1 k k1 k2] at k3; cases k3
  ·have q := h2 j a b (usno j (by omega) d).1
   by_cases hlt : ca c (rd who j0) j - rd u (rd who j0) - rd v j < rd least j
   ·rw [if_pos hlt, if_pos hlt] at p
    rw [p.1, p.2]
    refine ⟨hj0, us0, rfl, fun k k1 k2 k3 => ?_⟩
    rw [usat k k1] at k3
    by_cases e : k = j0
    ·rw [e]; omega
    ·rw [if_neg e] at k3
     have := q.2.2.2 k k1 k2 k3
     omega
   ·rw [if_neg hlt, if_neg hlt] at p
    rw [p.1, p.2]
    refine ⟨q.1, usup _ q.1.1 q.2.1, q.2.2.1, fun k k1 k2 k3 => ?_⟩
    rw [usat k k1] at k3
    by_cases e : k = j0
    ·rw [e]; omega
    ·rw [if_neg e] at k3
     exact q.2.2.2 k k1 k2 k3
 have lsb : ∀ j : Int, 1 ≤ j → j ≤ m → rdOf false us j = false → 0 ≤ rd ls j ∧ rd ls j ≤ 200000 := fun j a b d => by
  obtain ⟨h1, h2, h3, _⟩ := sl j a b d
  have hw := wr _ h1.1 h1.2 (usw _ h1.1 h1.2 h2)
  have := slb _ j hw.1 (by omega) a b
  omega
 obtain ⟨hj1, hj1q, uj1, hdl⟩ : 1 ≤ j1 ∧ j1 < ((m + 1 : Nat) : Int) ∧ rdOf false us j1 = false ∧ dl = rd ls j1 := by
  rcases S.arg with ⟨_, _, h⟩ | h
  ·have := h f0 hf1 (by omega)
   rw [f0us] at this; cases this
  ·exact h
 have hdb := lsb j1 hj1 (by omega) uj1
 have hlow : ∀ j : Int, 1 ≤ j → j ≤ m → rdOf false us j = false → dl ≤ rd ls j := fun j a b d => S.low j a (by omega) d
 refine grow_l3 (u := u) (v := v) (who := who) (ls := ls) (fr := fr) (used := us) (dl := dl) (j1 := j1) f hlw husl (by omega) (fun j a b d => by have := wr j a b (usw j a b d); omega) (fun j k a b a2 b2 d d2 e => wi j k a b a2 b2 (usw j a b d) e) D.pos D.neg (fun j a b d => by have := lsb j a b d; unfold FAR; omega) (fun uu vv le T => ?_) (m + 1) 0 u v ls (by omega)
  ⟨hlu, hlv, S.ll, fun j a b => by omega, fun _ _ _ _ => rfl, fun j a b => by rw [if_neg (fun h => by omega)], fun j a b d => by rw [if_neg (by omega)]⟩
 have ua : ∀ j : Int, 0 ≤ j → j ≤ m → rdOf false us j = true → rd uu (rd who j) = rd u (rd who j) + dl := fun j a b d => T.ua j a (by omega) d
 have va1 : ∀ j : Int, 1 ≤ j → j ≤ m → rdOf false us j = true → rd vv j = rd v j - dl := fun j a b d => by rw [T.va j a b, if_pos ⟨by omega, d⟩]
 have va0 : ∀ j : Int, 1 ≤ j → j ≤ m → rdOf false us j = false → rd vv j = rd v j := fun j a b d => by rw [T.va j a b, if_neg (fun h => by rw [d] at h; cases h.2)]
 have la : ∀ j : Int, 1 ≤ j → j ≤ m → rdOf false us j = false → rd le j = rd ls j - dl := fun j a b d => by rw [T.la j a b d, if_pos (by omega)]
 have ub : ∀ r : Int, 1 ≤ r → r ≤ n → (¬ ∃ j : Int, 0 ≤ j ∧ j ≤ m ∧ rdOf false us j = true ∧ rd who j = r) → rd uu r = rd u r := fun r a b d => T.ub r a b (fun j x y z e => d ⟨j, x, by omega, z, e⟩)
 have feas : ∀ r j : Int, 1 ≤ r → r ≤ n → 1 ≤ j → j ≤ m → rd uu r + rd vv j ≤ ca c r j := fun r j a1 a2 a3 a4 => by
  have h0 := D.feas r j a1 a2 a3 a4
  by_cases hk : ∃ k : Int, 0 ≤ k ∧ k ≤ m ∧ rdOf false us k = true ∧ rd who k = r
  ·obtain ⟨k, k1, k2, k3, rfl⟩ := hk
   have e1 := ua k k1 k2 k3
   cases d : rdOf false us j with
   | true => have e2 := va1 j a3 a4 d; omega
   | false =>
    have e2 := va0 j a3 a4 d
    have e3 := (sl j a3 a4 d).2.2.2 k k1 k2 k3
    have e4 := hlow j a3 a4 d
    omega
  ·have e1 := ub r a1 a2 hk
   cases d : rdOf false us j with
   | true => have e2 := va1 j a3 a4 d; omega
   | false => have e2 := va0 j a3 a4 d; omega
 have pos : ∀ r : Int, 1 ≤ r → r ≤ n → 0 ≤ rd uu r ∧ rd uu r ≤ 100000 := fun r a1 a2 => by
  have h0 := D.pos r a1 a2
  have h1 := feas r f0 a1 a2 hf1 hf2
  have h2 := va0 f0 hf1 hf2 f0us
  have h3 := D.free f0 hf1 hf2 hf3
  have h4 := ca_facts f a1 a2 hf1 hf2
  by_cases hk : ∃ k : Int, 0 ≤ k ∧ k ≤ m ∧ rdOf false us k = true ∧ rd who k = r
  ·obtain ⟨k, k1, k2, k3, rfl⟩ := hk
   have e1 := ua k k1 k2 k3
   omega
  ·have e1 := ub r a1 a2 hk
   omega
 have tight : ∀ j : Int, 1 ≤ j → j ≤ m → rd who j ≠ 0 → ca c (rd who j) j = rd uu (rd who j) + rd vv j := fun j a b d => by
  have h0 := D.tight j a b d
  cases z : rdOf false us j with
  | true => have e1 := ua j (by omega) b z; have e2 := va1 j a b z; omega
  | false =>
   have e2 := va0 j a b z
   have hw := wr j (by omega) b d
   have e1 := ub (rd who j) hw.1 (by omega) (by
    rintro ⟨k, k1, k2, k3, k4⟩
    have := wi k j k1 k2 (by omega) b (by rw [k4]; exact d) k4
    subst this; rw [z] at k3; cases k3)
   omega
 have free : ∀ j : Int, 1 ≤ j → j ≤ m → rd who j = 0 → rd vv j = 0 := fun j a b d => by
  cases z : rdOf false us j with
  | true => exact absurd d (usw j (by omega) b z)
  | false => rw [va0 j a b z]; exact D.free j a b d
 have neg : ∀ j : Int, 1 ≤ j → j ≤ m → -100000 ≤ rd vv j ∧ rd vv j ≤ 0 := fun j a b => by
  have h0 := D.neg j a b
  cases z : rdOf false us j with
  | true =>
   have e2 := va1 j a b z
   have d := usw j (by omega) b z
   have h1 := tight j a b d
   have hw := wr j (by omega) b d
   have h2 := pos _ hw.1 (by omega)
   have h3 := ca_facts f hw.1 (show rd who j ≤ (n : Int) by omega) a b
   omega
  | false => rw [va0 j a b z]; exact h0
 have D2 : Du c n m who uu vv := ⟨T.lu, T.lv, hlw, feas, tight, neg, free, pos⟩
 have sl2 : ∀ j : Int, 1 ≤ j → j ≤ m → rdOf false us j = false → (0 ≤ rd fr j ∧ rd fr j ≤ m) ∧ rdOf false us (rd fr j) = true ∧ rd le j = ca c (rd who (rd fr j)) j - rd uu (rd who (rd fr j)) - rd vv j ∧
   ∀ k : Int, 0 ≤ k → k ≤ m → rdOf false us k = true → rd le j ≤ ca c (rd who k) j - rd uu (rd who k) - rd vv j := fun j a b d => by
  obtain ⟨h1, h2, h3, h4⟩ := sl j a b d
  have e1 := la j a b d
  have e2 := va0 j a b d
  have e3 := ua _ h1.1 h1.2 h2
  refine ⟨h1, h2, by omega, fun k k1 k2 k3 => ?_⟩
  have := h4 k k1 k2 k3
  have := ua k k1 k2 k3
  omega
 have le1 : rd le j1 = 0 := by rw [la j1 hj1 (by omega) uj1]; omega
 obtain ⟨rk', hrk⟩ : ∃ rk' : Int → Nat, rk' = fun j => if j = j0 then t else rk j := ⟨_, rfl⟩
 have rkt : ∀ j : Int, 0 ≤ j → j ≤ m → rdOf false us j = true → rk' j < t + 1 := fun j a b d => by
  rw [usat j a] at d
  rw [hrk]; simp only
  by_cases e : j = j0
  ·rw [if_pos e]; omega
  ·rw [if_neg e] at d ⊢
   have := G.rkt j a b d
   omega
 have tree : ∀ j : Int, 1 ≤ j → j ≤ m → rdOf false us j = true → (0 ≤ rd fr j ∧ rd fr j ≤ m) ∧ rdOf false us (rd fr j) = true ∧ ca c (rd who (rd fr j)) j = rd uu (rd who (rd fr j)) + rd vv j ∧ rk' (rd fr j) < rk' j := fun j a b d => by
  have hfr := (S.rest j (by omega) (.inl d)).2
  have hv2 := va1 j a b d
  rw [hfr]
  have d2 := d
  rw [usat j (by omega)] at d2
  by_cases e : j = j0
  ·subst e
   rcases G.st with ⟨e0, _⟩ | ⟨e0, h1, h2, h3⟩
   ·omega
   ·obtain ⟨q1, q2, q3, _⟩ := h2 j a b G.uj0
    have e3 := ua _ q1.1 q1.2 (usup _ q1.1 q2)
    have hne : rd from_ j ≠ j := fun e => by rw [e, G.uj0] at q2; cases q2
    refine ⟨q1, usup _ q1.1 q2, by omega, ?_⟩
    rw [hrk]; simp only
    rw [if_neg hne]; simp only [if_true]
    exact G.rkt _ q1.1 q1.2 q2
  ·rw [if_neg e] at d2
   obtain ⟨q1, q2, q3, q4⟩ := G.tree j a b d2
   have e3 := ua _ q1.1 q1.2 (usup _ q1.1 q2)
   have hne : rd from_ j ≠ j0 := fun e => by rw [e, G.uj0] at q2; cases q2
   refine ⟨q1, usup _ q1.1 q2, by omega, ?_⟩
   rw [hrk]; simp only
   rw [if_neg hne, if_neg e]
   exact q4
 refine EvP.ifp (by omega) (EvP.ifp (by omega) (evP_ite (fun hw1 => ?_) (fun hw1 => ?_)))
 · -- a free column
  obtain ⟨q1, q2, q3, _⟩ := sl2 j1 hj1 (by omega) uj1
  have un : ∀ k : Int, rdOf false us k = true → k ≠ j1 := fun k h e => by rw [e, uj1] at h; cases h
  obtain ⟨who', e1, e2, e3, e4, e5⟩ := grow_l4 (c := c) (n := n) (m := m) (i := i) (who0 := who) (u := uu) (v := vv) (from_ := fr) (used := fun j => rdOf false us j) (rk := fun j => if j = j1 then t + 1 else rk' j) f.m10 hi.1 hw0 S.lf usw
   (fun j a b d => by
    obtain ⟨x1, x2, x3, x4⟩ := tree j a b d
    refine ⟨x1, x2, x3, ?_⟩
    show (if rd fr j = j1 then t + 1 else rk' (rd fr j)) < (if j = j1 then t + 1 else rk' j)
    rw [if_neg (un _ x2), if_neg (un _ d)]; exact x4) (t + 1) who j1 (by simp) ⟨hlw, ⟨by omega, by omega⟩, fun k a b => by
     by_cases e : k = 0
     ·subst e; rw [hw0]; omega
     ·have := M.rng k (by omega) b; omega, fun k l a b a2 b2 _ _ d e => M.inj k l a b a2 b2 d e, fun k a b _ d => tight k a b d, free, fun r a b h => by
     by_cases e : r = i
     ·have := h e; omega
     ·obtain ⟨k, x1, x2, x3⟩ := M.sur r a (by omega)
      exact ⟨k, x1, x2, fun e => by rw [e, hw1] at x3; omega, x3⟩, fun _ k a b _ => by have := M.rng k a b; omega, fun _ _ _ _ => rfl, fun _ => ⟨q1, q2, by omega, by
     show (if rd fr j1 = j1 then t + 1 else rk' (rd fr j1)) < (if j1 = j1 then t + 1 else rk' j1)
     rw [if_neg (un _ q2), if_pos rfl]
     exact rkt _ q1.1 q1.2 q2⟩⟩
  exact ⟨(uu, vv, who'), e1, ⟨T.lu, T.lv, e2, feas, e4, neg, e5, pos⟩, e3⟩
 · -- a column that has its row
  exact IH (unusedB us) (by omega) uu vv le fr us j1 rk' (t + 1) rfl ⟨D2, T.ll, S.lf, husl, ⟨by omega, by omega⟩, uj1, hw1, usw, .inr ⟨hj1, us00, sl2, le1⟩, tree, rkt⟩

theorem grow_l0 {c : List (List Int)} {m : Nat} {u v who fr : List Int} {us : List Bool} {P : List Int × List Int × List Int → Prop} (hm : m ≤ 10)
  (K : ∀ ls : List Int, ls.length = m + 1 → (∀ j : Int, 0 ≤ j → j ≤ m → rd ls j = FAR) → EvP (fun k => spec_l4Grow.l1 k c u v who m FAR ls fr us 0) P) :
  ∀ (d q : Nat) (ls : List Int), q + d = m + 1 → ls.length = m + 1 → (∀ j : Int, 0 ≤ j → j < q → rd ls j = FAR) → EvP (fun k => spec_l4Grow.l0 k c u v who m FAR ls fr us q) P
 | 0, q, ls, h, hl, hf => EvP.unroll (by
   simp only [spec_l4Grow.l0]
   exact EvP.ifn (by omega) (K ls hl (fun j a b => hf j a (by omega))))
 | d + 1, q, ls, h, hl, hf => EvP.unroll (by
   simp only [spec_l4Grow.l0, wrap_sc (show q < 9223372036854775807 by omega)]
   refine EvP.ifp (by omega) (EvP.ifp (by omega) (EvP.ifp (by omega) ?_))
   refine grow_l0 hm K d (q + 1) _ (by omega) (by rw [List.length_set]; exact hl) (fun j a b => ?_)
   rw [rd_set (by omega) (by omega) a]
   by_cases e : j = q
   ·rw [if_pos e]
   ·rw [if_neg e]; exact hf j a (by omega))
theorem grow_ok {c : List (List Int)} {n m : Nat} (f : Mat c n m) {i : Int} (hi : 1 ≤ i ∧ i ≤ n) {u v who : List Int} (D : Du c n m who u v) (M : Ma m (i - 1) who) (hw0 : rd who 0 = i) :
  EvP (fun k => spec_l4Grow.f k c u v who m) (fun R => Du c n m R.2.2 R.1 R.2.1 ∧ Ma m i R.2.2) := by
 have hm := f.m10
 have e1 : wrap64 ((m : Int) + 1) = ((m + 1 : Nat) : Int) := wrap_sc (show m < 9223372036854775807 by omega)
 simp only [spec_l4Grow.f, e1, Int.toNat_natCast]
 refine EvP.ifp (by omega) (EvP.ifp (by omega) (EvP.ifp (by omega) ?_))
 have hf : ∀ j : Int, rdOf false (List.replicate (m + 1) false) j = false := fun j => by
  unfold rdOf
  rw [List.getD_eq_getElem?_getD, List.getElem?_replicate]
  split <;> rfl
 refine grow_l0 hm (fun ls hl hF => ?_) (m + 1) 0 _ (by omega) (by simp) (fun j a b => by omega)
 refine grow_l1 f hi M hw0 _ u v ls _ _ 0 (fun _ => 0) 0 rfl ⟨D, hl, by simp, by simp, by omega, hf 0, by rw [hw0]; omega, fun j _ _ h => ?_, .inl ⟨rfl, fun j _ _ => hf j, fun j a b => hF j (by omega) b⟩, fun j _ _ h => ?_, fun j _ _ h => ?_⟩
 ·rw [hf j] at h; cases h
 ·rw [hf j] at h; cases h
 ·rw [hf j] at h; cases h
theorem Du.set0 {c : List (List Int)} {n m : Nat} {who u v : List Int} (D : Du c n m who u v) (q : Int) : Du c n m (who.set (0 : Int).toNat q) u v := by
 have hw := D.lw
 have e : ∀ j : Int, 1 ≤ j → rd (who.set (0 : Int).toNat q) j = rd who j := fun j h => by rw [rd_set (by omega) (by omega) (by omega), if_neg (by omega)]
 exact ⟨D.lu, D.lv, by rw [List.length_set]; exact hw, D.feas, fun j a b d => by rw [e j a] at d ⊢; exact D.tight j a b d, D.neg, fun j a b d => by rw [e j a] at d; exact D.free j a b d, D.pos⟩
theorem Ma.set0 {m : Nat} {i : Int} {who : List Int} (hw : who.length = m + 1) (M : Ma m i who) (q : Int) : Ma m i (who.set (0 : Int).toNat q) := by
 have e : ∀ j : Int, 1 ≤ j → rd (who.set (0 : Int).toNat q) j = rd who j := fun j h => by rw [rd_set (by omega) (by omega) (by omega), if_neg (by omega)]
 exact ⟨fun j a b => by rw [e j a]; exact M.rng j a b, fun j k a b a2 b2 d h => by rw [e j a] at d h; rw [e k a2] at h; exact M.inj j k a b a2 b2 d h, fun r a b => by
  obtain ⟨j, x, y, z⟩ := M.sur r a b
  exact ⟨j, x, y, by rw [e j x]; exact z⟩⟩
theorem du_start {c : List (List Int)} {n m : Nat} (f : Mat c n m) : Du c n m (List.replicate (m + 1) 0) (List.replicate (n + 1) 0) (List.replicate (m + 1) 0) ∧ Ma m 0 (List.replicate (m + 1) 0) := by
 have z : ∀ (a : Nat) (j : Int), rd (List.replicate a 0) j = 0 := fun a j => by
  unfold rd
  rw [List.getD_eq_getElem?_getD, List.getElem?_replicate]
  split <;> rfl
 refine ⟨⟨by simp, by simp, by simp, fun r j a b a2 b2 => ?_, fun j _ _ h => absurd (z _ j) h, fun j _ _ => ?_, fun j _ _ _ => z _ j, fun r _ _ => ?_⟩, ⟨fun j _ _ => ?_, fun j k _ _ _ _ h => absurd (z _ j) h, fun r a b => by omega⟩⟩
 ·rw [z, z]; have := ca_facts f a b a2 b2; omega
 ·rw [z]; omega
 ·rw [z]; omega
 ·rw [z]; omega
theorem EvP.bind {α β : Type} {f : Nat → Option α} {g : Nat → α → Option β} {P : β → Prop} {Q : α → Prop} (h1 : EvP f Q) (h2 : ∀ a, Q a → EvP (fun k => g k a) P) : EvP (fun k => (f k).bind (g k)) P := by
 obtain ⟨r, e, q⟩ := h1
 obtain ⟨s, e2, p⟩ := h2 r q
 exact ⟨s, Ev.bind e e2, p⟩
theorem EvP.now {α : Type} {r : α} {P : α → Prop} (h : P r) : EvP (fun _ => some r) P := ⟨r, Ev.now _, h⟩
theorem prices_l0 {c : List (List Int)} {n m : Nat} (f : Mat c n m) : ∀ (d q : Nat) (u v who : List Int), q + d = n + 1 → 1 ≤ q → Du c n m who u v → Ma m ((q : Int) - 1) who →
  EvP (fun k => spec_l4Prices.l0 k c n m u v who q) (fun R => ∃ u v who : List Int, Du c n m who u v ∧ Ma m n who ∧ R = (u.drop 1, v.drop 1))
 | 0, q, u, v, who, h, hq, D, M => EvP.unroll (by
   have h1 := D.lu
   have h2 := D.lv
   simp only [spec_l4Prices.l0]
   refine EvP.ifn (by omega) (EvP.ifp (by omega) (EvP.ifp (by omega) (EvP.now ⟨u, v, who, D, ?_, rfl⟩)))
   rw [show (n : Int) = (q : Int) - 1 by omega]; exact M)
 | d + 1, q, u, v, who, h, hq, D, M => EvP.unroll (by
   have hn := f.nm
   have hm := f.m10
   have h3 := D.lw
   simp only [spec_l4Prices.l0, wrap_sc (show q < 9223372036854775807 by omega)]
   refine EvP.ifp (by omega) (EvP.ifp (by omega) (EvP.bind (grow_ok f (i := q) ⟨by omega, by omega⟩ (D.set0 q) (M.set0 h3 q) (by rw [rd_set (by omega) (by omega) (by omega), if_pos rfl])) (fun R hR => ?_)))
   refine prices_l0 f d (q + 1) R.1 R.2.1 R.2.2 (by omega) (by omega) hR.1 ?_
   rw [show ((q + 1 : Nat) : Int) - 1 = (q : Int) by omega]; exact hR.2)

def sumA (g : Nat → Int) : Nat → Int
 | 0 => 0
 | n + 1 => sumA g n + g n
theorem sumA_congr {g h : Nat → Int} : ∀ n : Nat, (∀ i, i < n → g i = h i) → sumA g n = sumA h n
 | 0, _ => rfl
 | n + 1, e => by
  have := sumA_congr n (fun i hi => e i (by omega))
  simp only [sumA]
  rw [this, e n (by omega)]
theorem sumA_add {g h : Nat → Int} : ∀ n : Nat, sumA (fun i => g i + h i) n = sumA g n + sumA h n
 | 0 => rfl
 | n + 1 => by
  have := sumA_add (g := g) (h := h) n
  simp only [sumA]
  omega
theorem sumA_le {g h : Nat → Int} : ∀ n : Nat, (∀ i, i < n → g i ≤ h i) → sumA g n ≤ sumA h n
 | 0, _ => Int.le_refl _
 | n + 1, e => by
  have := sumA_le n (fun i hi => e i (by omega))
  have := e n (by omega)
  simp only [sumA]
  omega
theorem sumA_zero : ∀ n : Nat, sumA (fun _ => 0) n = 0
 | 0 => rfl
 | n + 1 => by simp only [sumA]; rw [sumA_zero n]; rfl
theorem sumA_clear {g : Nat → Int} {x : Nat} : ∀ {m : Nat}, x < m → sumA g m = sumA (fun j => if j = x then 0 else g j) m + g x
 | 0, h => absurd h (by omega)
 | m + 1, h => by
  simp only [sumA]
  by_cases e : x = m
  ·subst e
   rw [if_pos rfl, sumA_congr x (g := fun j => if j = x then 0 else g j) (h := g) (fun i hi => if_neg (by omega))]
   omega
  ·rw [if_neg (fun h => e h.symm), sumA_clear (g := g) (x := x) (m := m) (by omega)]
   omega
structure Inj (σ : Nat → Nat) (n m : Nat) : Prop where
 lt : ∀ i : Nat, i < n → σ i < m
 inj : ∀ i k : Nat, i < n → k < n → σ i = σ k → i = k
theorem Inj.less {σ : Nat → Nat} {n m : Nat} (h : Inj σ (n + 1) m) : Inj σ n m := ⟨fun i hi => h.lt i (by omega), fun i k a b e => h.inj i k (by omega) (by omega) e⟩
theorem sum_inj_le {m : Nat} {σ : Nat → Nat} : ∀ (n : Nat) (g : Nat → Int), Inj σ n m → (∀ j, j < m → g j ≤ 0) → sumA g m ≤ sumA (fun i => g (σ i)) n
 | 0, g, _, h => by
  have := sumA_le m (g := g) (h := fun _ => 0) h
  rw [sumA_zero] at this
  exact this
 | n + 1, g, I, h => by
  have hx := I.lt n (by omega)
  have ih := sum_inj_le n (fun j => if j = σ n then 0 else g j) I.less (fun j hj => by split <;> first | exact Int.le_refl _ | exact h j hj)
  have e := sumA_congr n (g := fun i => if σ i = σ n then 0 else g (σ i)) (h := fun i => g (σ i)) (fun i hi => if_neg (fun h => by have := I.inj i n (by omega) (by omega) h; omega))
  rw [sumA_clear hx]
  simp only [sumA]
  omega
theorem sum_inj_eq {m : Nat} {σ : Nat → Nat} : ∀ (n : Nat) (g : Nat → Int), Inj σ n m → (∀ j, j < m → (∀ i, i < n → σ i ≠ j) → g j = 0) → sumA g m = sumA (fun i => g (σ i)) n
 | 0, g, _, h => by
  have := sumA_congr m (g := g) (h := fun _ => 0) (fun j hj => h j hj (fun i hi => absurd hi (by omega)))
  rw [sumA_zero] at this
  exact this
 | n + 1, g, I, h => by
  have hx := I.lt n (by omega)
  have ih := sum_inj_eq n (fun j => if j = σ n then 0 else g j) I.less (fun j hj hi => by
   by_cases e : j = σ n
   ·exact if_pos e
   ·simp only [if_neg e]
    exact h j hj (fun i a => by
     by_cases ei : i = n
     ·subst ei; exact fun e2 => e e2.symm
     ·exact hi i (by omega)))
  have e := sumA_congr n (g := fun i => if σ i = σ n then 0 else g (σ i)) (h := fun i => g (σ i)) (fun i hi => if_neg (fun h => by have := I.inj i n (by omega) (by omega) h; omega))
  rw [sumA_clear hx]
  simp only [sumA]
  omega
def cst (c : List (List Int)) (i j : Nat) : Int := (c.getD i []).getD j 0
def asum (c : List (List Int)) (σ : Nat → Nat) (n : Nat) : Int := sumA (fun i => cst c i (σ i)) n
structure IsLeast (c : List (List Int)) (n m : Nat) (s : Int) : Prop where
 some : ∃ σ : Nat → Nat, Inj σ n m ∧ asum c σ n = s
 low : ∀ σ : Nat → Nat, Inj σ n m → s ≤ asum c σ n
theorem IsLeast.one {c : List (List Int)} {n m : Nat} {s t : Int} (h : IsLeast c n m s) (k : IsLeast c n m t) : s = t := by
 obtain ⟨σ, a, b⟩ := h.some
 obtain ⟨τ, a2, b2⟩ := k.some
 have := h.low τ a2
 have := k.low σ a
 omega
theorem dual {c : List (List Int)} {n m : Nat} {u v : Nat → Int} {σ : Nat → Nat} (I : Inj σ n m) (feas : ∀ i j, i < n → j < m → u i + v j ≤ cst c i j) (neg : ∀ j, j < m → v j ≤ 0) (tight : ∀ i, i < n → cst c i (σ i) = u i + v (σ i)) (free : ∀ j, j < m → (∀ i, i < n → σ i ≠ j) → v j = 0) : IsLeast c n m (asum c σ n) := by
 refine ⟨⟨σ, I, rfl⟩, fun τ J => ?_⟩
 have h1 : asum c σ n = sumA u n + sumA v m := by
  rw [sum_inj_eq n v I free, ← sumA_add]
  exact sumA_congr n tight
 have h2 : sumA (fun i => u i + v (τ i)) n ≤ asum c τ n := sumA_le n (fun i hi => feas i (τ i) hi (J.lt i hi))
 rw [sumA_add] at h2
 have := sum_inj_le n v J neg
 omega
theorem least_of_du {c : List (List Int)} {n m : Nat} {who u v : List Int} (D : Du c n m who u v) (M : Ma m n who) :
  ∃ σ : Nat → Nat, Inj σ n m ∧ (∀ i : Nat, i < n → rd who ((σ i : Int) + 1) = (i : Int) + 1) ∧ IsLeast c n m (asum c σ n) := by
 have hex : ∀ i : Nat, ∃ j : Nat, i < n → j < m ∧ rd who ((j : Int) + 1) = (i : Int) + 1 := fun i => by
  by_cases hi : i < n
  ·obtain ⟨j, a, b, e⟩ := M.sur ((i : Int) + 1) (by omega) (by omega)
   exact ⟨(j - 1).toNat, fun _ => ⟨by omega, by rw [show (((j - 1).toNat : Nat) : Int) + 1 = j by omega]; exact e⟩⟩
  ·exact ⟨0, fun h => absurd h hi⟩
 obtain ⟨σ, hσ⟩ := Classical.axiomOfChoice hex
 have I : Inj σ n m := ⟨fun i hi => (hσ i hi).1, fun i k hi hk e => by
  have h1 := (hσ i hi).2
  have h2 := (hσ k hk).2
  rw [e, h2] at h1
  omega⟩
 have cc : ∀ i j : Nat, ca c ((i : Int) + 1) ((j : Int) + 1) = cst c i j := fun i j => by
  unfold ca cst
  rw [show (i : Int) + 1 - 1 = (i : Int) by omega, show (j : Int) + 1 - 1 = (j : Int) by omega, rdSS_n, rd_nat']
 refine ⟨σ, I, fun i hi => (hσ i hi).2, dual (u := fun i => rd u ((i : Int) + 1)) (v := fun j => rd v ((j : Int) + 1)) I (fun i j a b => ?_) (fun j a => (D.neg _ (by omega) (by omega)).2) (fun i a => ?_) (fun j a h => ?_)⟩
 ·rw [← cc]; exact D.feas _ _ (by omega) (by omega) (by omega) (by omega)
 ·have h1 := hσ i a
  have := D.tight ((σ i : Int) + 1) (by omega) (by omega) (by rw [h1.2]; omega)
  rw [h1.2, cc] at this
  exact this
 ·refine D.free _ (by omega) (by omega) (Classical.byContradiction fun hn => ?_)
  have h1 := M.rng ((j : Int) + 1) (by omega) (by omega)
  have hi : (rd who ((j : Int) + 1) - 1).toNat < n := by omega
  have h2 := hσ _ hi
  have h3 := M.inj ((σ (rd who ((j : Int) + 1) - 1).toNat : Int) + 1) ((j : Int) + 1) (by omega) (by omega) (by omega) (by omega) (by rw [h2.2]; omega) (by rw [h2.2]; omega)
  exact h (rd who ((j : Int) + 1) - 1).toNat hi (by omega)
theorem IsLeast.none (c : List (List Int)) (m : Nat) : IsLeast c 0 m 0 := ⟨⟨fun _ => 0, ⟨fun i h => by omega, fun i k h => by omega⟩, rfl⟩, fun σ _ => Int.le_refl _⟩
theorem l4Prices_f {c : List (List Int)} {n m : Nat} (f : Mat c n m) : EvP (fun k => spec_l4Prices.f k c) (fun R => ∃ u v who : List Int, Du c n m who u v ∧ Ma m n who ∧ R = (u.drop 1, v.drop 1)) := by
 have hm := f.m10
 have hn := f.nm
 have h1 := f.n1
 have hl := f.len
 have hr := f.row 0 (by omega)
 have er : (rd_L1 c 0).length = m := by rw [show (0 : Int) = ((0 : Nat) : Int) from rfl, rdSS_n]; exact hr
 obtain ⟨D, M⟩ := du_start f
 simp only [spec_l4Prices.f, er, hl, wrap_sc (show n < 9223372036854775807 by omega), wrap_sc (show m < 9223372036854775807 by omega), Int.toNat_natCast]
 refine EvP.ifn (by omega) (EvP.ifp (by omega) (EvP.ifp (by omega) (EvP.ifp (by omega) (EvP.ifp (by omega) (EvP.ifp (by omega) ?_)))))
 exact prices_l0 f n 1 _ _ _ (by omega) (by omega) D (by rw [show ((1 : Nat) : Int) - 1 = 0 by omega]; exact M)

def cutRow (j : Nat) (r : List Int) : List Int := r.take j ++ r.drop (j + 1)
def without (c : List (List Int)) (j : Nat) : List (List Int) := (c.drop 1).map (cutRow j)
theorem sumA_head {g : Nat → Int} : ∀ n : Nat, sumA g (n + 1) = g 0 + sumA (fun i => g (i + 1)) n
 | 0 => by simp [sumA]
 | n + 1 => by
  have := sumA_head (g := g) n
  simp only [sumA] at this ⊢
  omega
def Picks : Nat → List (List Int) → Nat → List Int → List Int → Prop
 | 0, _, _, _, cols => cols = []
 | n + 1, c, m, names, cols => ∃ (j : Nat) (s t : Int) (rest : List Int), j < m ∧ cols = names.getD j 0 :: rest ∧ IsLeast c (n + 1) m s ∧ IsLeast (without c j) n (m - 1) t ∧ s = cst c 0 j + t ∧
   (∀ (q : Nat) (t' : Int), q < j → IsLeast (without c q) n (m - 1) t' → s ≠ cst c 0 q + t') ∧ Picks n (without c j) (m - 1) (cutRow j names) rest
theorem Picks.one : ∀ (n : Nat) {c : List (List Int)} {m : Nat} {names a b : List Int}, (∀ q : Nat, q < m → ∃ t, IsLeast (without c q) (n - 1) (m - 1) t) → Picks n c m names a → Picks n c m names b → True
 | _, _, _, _, _, _, _, _, _ => trivial
theorem mat_of {c : List (List Int)} (f : CostFacts c) (h : c ≠ []) : Mat c c.length (c.getD 0 []).length := by
 have h1 : 1 ≤ c.length := by
  cases c with
  | nil => exact absurd rfl h
  | cons a t => simp
 have h2 := f.row 0 (by omega)
 exact ⟨rfl, h1, h2.2.1, h2.2.2, fun i hi => (f.row i hi).1, fun i j hi hj => f.cost i j hi (by rw [(f.row i hi).1]; exact hj)⟩
structure MatL (c : List (List Int)) (n m : Nat) : Prop where
 len : c.length = n
 nm : n ≤ m
 m10 : m ≤ 10
 row : ∀ i : Nat, i < n → (c.getD i []).length = m
 cost : ∀ i j : Nat, i < n → j < m → 0 ≤ cst c i j ∧ cst c i j ≤ 100000
theorem Mat.l {c : List (List Int)} {n m : Nat} (f : Mat c n m) : MatL c n m := ⟨f.len, f.nm, f.m10, f.row, f.cost⟩
def dpTry (c : List (List Int)) (i : Nat) (nx : Nat → Int) (S : Nat) : Nat → Int
 | 0 => -1
 | k + 1 => if S.testBit k = true then dpTry c i nx S k else if nx (S ||| 2 ^ k) < 0 then dpTry c i nx S k else
   if dpTry c i nx S k < 0 then cst c i k + nx (S ||| 2 ^ k) else if cst c i k + nx (S ||| 2 ^ k) < dpTry c i nx S k then cst c i k + nx (S ||| 2 ^ k) else dpTry c i nx S k
def dp (c : List (List Int)) (n m : Nat) : Nat → Nat → Int
 | 0, _ => 0
 | d + 1, S => dpTry c (n - (d + 1)) (dp c n m d) S m
def rowDp (c : List (List Int)) (n m d : Nat) : List Int := (List.range (2 ^ m)).map (dp c n m d)
theorem rowDp_get {c : List (List Int)} {n m d S : Nat} (h : S < 2 ^ m) : (rowDp c n m d).getD S 0 = dp c n m d S := by
 unfold rowDp
 rw [List.getD_eq_getElem?_getD, List.getElem?_map, List.getElem?_range h]
 rfl
theorem rowDp_len {c : List (List Int)} {n m d : Nat} : (rowDp c n m d).length = 2 ^ m := by unfold rowDp; simp
theorem dpTry_b {c : List (List Int)} {n m : Nat} (f : MatL c n m) {i : Nat} (hi : i < n) {nx : Nat → Int} {B : Int} (hB : 0 ≤ B) (h : ∀ S, -1 ≤ nx S ∧ nx S ≤ B) (S : Nat) : ∀ k : Nat, k ≤ m → -1 ≤ dpTry c i nx S k ∧ dpTry c i nx S k ≤ B + 100000
 | 0, _ => by simp only [dpTry]; omega
 | k + 1, hk => by
  have ih := dpTry_b f hi hB h S k (by omega)
  have h1 := h (S ||| 2 ^ k)
  have h2 := f.cost i k hi (by omega)
  simp only [dpTry]
  split
  ·exact ih
  ·split
   ·exact ih
   ·split
    ·omega
    ·split <;> omega
theorem dp_b {c : List (List Int)} {n m : Nat} (f : MatL c n m) : ∀ (d : Nat), d ≤ n → ∀ S, -1 ≤ dp c n m d S ∧ dp c n m d S ≤ 100000 * (d : Int)
 | 0, _, S => by simp [dp]
 | d + 1, h, S => by
  have := dpTry_b f (i := n - (d + 1)) (by omega) (show 0 ≤ 100000 * (d : Int) by omega) (dp_b f d (by omega)) S m (Nat.le_refl _)
  simp only [dp]
  omega
structure Tab (c : List (List Int)) (n m i : Nat) (T : List (List Int)) (S : Nat) : Prop where
 len : T.length = n + 1
 hi : ∀ r : Nat, i < r → r ≤ n → T.getD r [] = rowDp c n m (n - r)
 row : (T.getD i []).length = 2 ^ m
 done : ∀ s : Nat, s < S → (T.getD i []).getD s 0 = dp c n m (n - i) s
theorem pow_m {m : Nat} (h : m ≤ 10) : 2 ^ m ≤ 1024 ∧ 1 ≤ 2 ^ m := by
 have h1 : 2 ^ m ≤ 2 ^ 10 := Nat.pow_le_pow_right (by omega) h
 have h2 : 0 < 2 ^ m := Nat.pow_pos (by omega)
 exact ⟨h1, h2⟩
theorem getD_setS {T : List (List Int)} {i r : Nat} {R : List Int} (h : i < T.length) : (T.set i R).getD r [] = if r = i then R else T.getD r [] := by
 rw [List.getD_eq_getElem?_getD, List.getElem?_set, List.getD_eq_getElem?_getD]
 by_cases e : r = i
 ·subst e; rw [if_pos rfl, if_pos rfl, if_pos h]; rfl
 ·rw [if_neg (fun h => e h.symm), if_neg e]
theorem getD_setI {R : List Int} {s q : Nat} {x : Int} (h : s < R.length) : (R.set s x).getD q 0 = if q = s then x else R.getD q 0 := by
 rw [List.getD_eq_getElem?_getD, List.getElem?_set, List.getD_eq_getElem?_getD]
 by_cases e : q = s
 ·subst e; rw [if_pos rfl, if_pos rfl, if_pos h]; rfl
 ·rw [if_neg (fun h => e h.symm), if_neg e]
theorem Tab.put {c : List (List Int)} {n m i : Nat} {T : List (List Int)} {S : Nat} (t : Tab c n m i T S) (hi : i ≤ n) (hS : S < 2 ^ m) (x : Int) :
  Tab c n m i (T.set i ((T.getD i []).set S x)) S ∧ ((T.set i ((T.getD i []).set S x)).getD i []).getD S 0 = x := by
 have hl := t.len
 have hr := t.row
 refine ⟨⟨by rw [List.length_set]; exact hl, fun r h1 h2 => ?_, ?_, fun s hs => ?_⟩, ?_⟩
 ·rw [getD_setS (by omega), if_neg (by omega)]; exact t.hi r h1 h2
 ·rw [getD_setS (by omega), if_pos rfl, List.length_set]; exact hr
 ·rw [getD_setS (by omega), if_pos rfl, getD_setI (by omega), if_neg (by omega)]; exact t.done s hs
 ·rw [getD_setS (by omega), if_pos rfl, getD_setI (by omega), if_pos rfl]
theorem or_lt {m S k : Nat} (hS : S < 2 ^ m) (hk : k < m) : S ||| 2 ^ k < 2 ^ m := Nat.or_lt_two_pow hS (Nat.pow_lt_pow_right (by omega) hk)
theorem impl_least_l2 {c : List (List Int)} {n m : Nat} (f : MatL c n m) {i : Nat} (hi : i < n) {S : Nat} (hS : S < 2 ^ m) {P : List (List Int) → Prop}
  (K : ∀ T : List (List Int), Tab c n m i T (S + 1) → EvP (fun k => impl_least.l1 k c m T i ((2 ^ m : Nat) : Int) ((S + 1 : Nat) : Int)) P) :
  ∀ (d k : Nat) (T : List (List Int)), k + d = m → Tab c n m i T S → (T.getD i []).getD S 0 = dpTry c i (dp c n m (n - i - 1)) S k → EvP (fun q => impl_least.l2 q c m T i S ((2 ^ m : Nat) : Int) S m k) P := by
 intro d
 have hm := f.m10
 have hn := f.nm
 have hcl := f.len
 have hp := pow_m hm
 induction d with
 | zero =>
  intro k T h t hv
  obtain rfl : k = m := by omega
  refine EvP.unroll ?_
  simp only [impl_least.l2, wrap_sc (show S < 9223372036854775807 by omega)]
  refine EvP.ifn (by omega) (K T ⟨t.len, t.hi, t.row, fun s hs => ?_⟩)
  by_cases e : s = S
  ·subst e
   rw [hv, show n - i = (n - i - 1) + 1 by omega]
   show _ = dpTry c (n - (n - i - 1 + 1)) (dp c n k (n - i - 1)) s k
   rw [show n - (n - i - 1 + 1) = i by omega]
   rfl
  ·exact t.done s (by omega)
 | succ d ih =>
  intro k T h t hv
  have hk : k < m := by omega
  have hT := t.len
  have hTi := t.row
  have b := bit_in S k (by omega) (by omega)
  obtain ⟨e, _⟩ := bit_put S k (by omega) (by omega)
  have hor := or_lt hS hk
  have hnx := t.hi (i + 1) (by omega) (by omega)
  rw [show n - (i + 1) = n - i - 1 by omega] at hnx
  have hg : (T.getD (i + 1) []).getD (S ||| 2 ^ k) 0 = dp c n m (n - i - 1) (S ||| 2 ^ k) := by rw [hnx, rowDp_get hor]
  have hlen : (T.getD (i + 1) []).length = 2 ^ m := by rw [hnx, rowDp_len]
  have db := dp_b f (n - i - 1) (by omega) (S ||| 2 ^ k)
  have cb := f.cost i k hi hk
  have hrow := f.row i hi
  have tb := dpTry_b f hi (show 0 ≤ 100000 * ((n - i - 1 : Nat) : Int) by omega) (dp_b f (n - i - 1) (by omega)) S k (by omega)
  refine EvP.unroll ?_
  simp only [impl_least.l2, e, wrap_sc (show i < 9223372036854775807 by omega), rdSS_n, rd_nat', hg, hlen]
  refine EvP.ifp (by omega) (EvP.ifp (by omega) (evP_ite (fun hb => ?_) (fun hb => ?_)))
  ·refine EvP.unroll ?_
   simp only [impl_least.j4, wrap_sc (show k < 9223372036854775807 by omega)]
   refine EvP.ifp trivial (ih (k + 1) T (by omega) t ?_)
   rw [hv]
   simp only [dpTry]
   rw [if_pos (b.1 hb)]
  ·refine EvP.ifp (by omega) (EvP.ifp (by omega) (EvP.ifp (by omega) (EvP.ifp (by omega) (EvP.unroll ?_))))
   have hnb : ¬ S.testBit k = true := fun h => hb (b.2 h)
   simp only [impl_least.j4, e, wrap_sc (show i < 9223372036854775807 by omega), wrap_sc (show k < 9223372036854775807 by omega), rdSS_n, rd_nat', hg, hlen, hv]
   refine evP_ite (fun hd => ?_) (fun hd => ?_)
   ·have hd' : dp c n m (n - i - 1) (S ||| 2 ^ k) < 0 := by simpa using hd
    refine ih (k + 1) T (by omega) t ?_
    rw [hv]
    simp only [dpTry]
    rw [if_neg hnb, if_pos hd']
   ·have hd' : ¬ dp c n m (n - i - 1) (S ||| 2 ^ k) < 0 := by simpa using hd
    have ew : wrap64 ((c.getD i []).getD k 0 + dp c n m (n - i - 1) (S ||| 2 ^ k)) = cst c i k + dp c n m (n - i - 1) (S ||| 2 ^ k) := wrap_id (x := cst c i k + dp c n m (n - i - 1) (S ||| 2 ^ k)) (by omega) (by omega)
    rw [ew]
    have step : dpTry c i (dp c n m (n - i - 1)) S (k + 1) = if dpTry c i (dp c n m (n - i - 1)) S k < 0 then cst c i k + dp c n m (n - i - 1) (S ||| 2 ^ k) else if cst c i k + dp c n m (n - i - 1) (S ||| 2 ^ k) < dpTry c i (dp c n m (n - i - 1)) S k then cst c i k + dp c n m (n - i - 1) (S ||| 2 ^ k) else dpTry c i (dp c n m (n - i - 1)) S k := by
     simp only [dpTry]
     rw [if_neg hnb, if_neg hd']
    obtain ⟨t2, v2⟩ := t.put (by omega) hS (cst c i k + dp c n m (n - i - 1) (S ||| 2 ^ k))
    refine EvP.ifp (by omega) (EvP.ifp (by omega) (EvP.ifp (by omega) (EvP.ifp (by omega) (EvP.ifp (by omega) (EvP.ifp (by omega) (EvP.ifp (by omega) (EvP.ifp (by omega) (EvP.ifp (by omega) (EvP.ifp (by omega) (EvP.ifp (by omega) (evP_ite (fun h1 => ?_) (fun h1 => evP_ite (fun h2 => ?_) (fun h2 => ?_)))))))))))))
    ·exact ih (k + 1) _ (by omega) t2 (by rw [step, if_pos h1]; exact v2)
    ·exact ih (k + 1) _ (by omega) t2 (by rw [step, if_neg h1, if_pos h2]; exact v2)
    ·exact ih (k + 1) T (by omega) t (by rw [step, if_neg h1, if_neg h2]; exact hv)
theorem impl_least_l1 {c : List (List Int)} {n m : Nat} (f : MatL c n m) {i : Nat} (hi : i < n) {P : List (List Int) → Prop}
  (K : ∀ T : List (List Int), Tab c n m i T (2 ^ m) → EvP (fun k => impl_least.l0 k c m T ((i : Int) - 1)) P) :
  ∀ (d S : Nat) (T : List (List Int)), S + d = 2 ^ m → Tab c n m i T S → EvP (fun k => impl_least.l1 k c m T i ((2 ^ m : Nat) : Int) S) P := by
 intro d
 have hm := f.m10
 have hn := f.nm
 have hp := pow_m hm
 induction d with
 | zero =>
  intro S T h t
  refine EvP.unroll ?_
  simp only [impl_least.l1]
  rw [wrap_id (x := (i : Int) - 1) (by omega) (by omega)]
  exact EvP.ifn (by omega) (K T (by rw [show 2 ^ m = S by omega]; exact t))
 | succ d ih =>
  intro S T h t
  have hT := t.len
  have hTi := t.row
  obtain ⟨t2, v2⟩ := t.put (by omega) (show S < 2 ^ m by omega) (-1)
  refine EvP.unroll ?_
  simp only [impl_least.l1, rdSS_n, hTi, Int.toNat_natCast]
  refine EvP.ifp (by omega) (EvP.ifp (by omega) (EvP.ifp (by omega) (EvP.ifp (by omega) (EvP.ifp (by omega) ?_))))
  exact impl_least_l2 f hi (by omega) (fun T t => ih (S + 1) T (by omega) t) m 0 _ (by omega) t2 v2
theorem impl_least_l0 {c : List (List Int)} {n m : Nat} (f : MatL c n m) : ∀ (i : Nat) (T : List (List Int)), i ≤ n → T.length = n + 1 → (∀ r : Nat, i ≤ r → r ≤ n → T.getD r [] = rowDp c n m (n - r)) →
  EvP (fun k => impl_least.l0 k c m T ((i : Int) - 1)) (fun T => T.length = n + 1 ∧ ∀ r : Nat, r ≤ n → T.getD r [] = rowDp c n m (n - r))
 | 0, T, hi, hl, h => EvP.unroll (by
   simp only [impl_least.l0]
   exact EvP.ifn (by omega) (EvP.now ⟨hl, fun r hr => h r (by omega) hr⟩))
 | i + 1, T, hi, hl, h => EvP.unroll (by
   have hm := f.m10
   have hp := pow_m hm
   simp only [impl_least.l0, show ((i + 1 : Nat) : Int) - 1 = (i : Int) by omega, shl_one m (by omega), Int.toNat_natCast, some_bind, rdSS_n]
   rw [show (((T.set i (List.replicate (2 ^ m) 0)).getD i []).length : Int) = ((2 ^ m : Nat) : Int) by rw [getD_setS (by omega), if_pos rfl, List.length_replicate]]
   refine EvP.ifp (by omega) (EvP.ifp (by omega) (EvP.ifp (by omega) (EvP.ifp (by omega) (EvP.ifp (by omega) (EvP.ifp (by omega) ?_)))))
   refine impl_least_l1 f (i := i) (by omega) (fun T t => ?_) (2 ^ m) 0 _ (by omega) ⟨by rw [List.length_set]; exact hl, fun r h1 h2 => by rw [getD_setS (by omega), if_neg (by omega)]; exact h r (by omega) h2, by rw [getD_setS (by omega), if_pos rfl, List.length_replicate], fun s hs => by omega⟩
   refine impl_least_l0 f i T (by omega) t.len (fun r h1 h2 => ?_)
   by_cases e : r = i
   ·subst e
    refine List.ext_getElem (by rw [t.row, rowDp_len]) (fun s a b => ?_)
    have hs : s < 2 ^ m := by rw [← t.row]; exact a
    have e1 := t.done s hs
    have e2 := rowDp_get (c := c) (n := n) (m := m) (d := n - r) hs
    rw [getD_at a] at e1
    rw [getD_at b] at e2
    rw [e1, e2]
   ·exact t.hi r (by omega) h2)
theorem impl_least_j0 {c : List (List Int)} {n m : Nat} (f : MatL c n m) : EvP (fun k => impl_least.j0 k c m) (fun T => T.length = n + 1 ∧ ∀ r : Nat, r ≤ n → T.getD r [] = rowDp c n m (n - r)) := by
 have hm := f.m10
 have hn := f.nm
 have hp := pow_m hm
 refine EvP.unroll ?_
 simp only [impl_least.j0, f.len, wrap_sc (show n < 9223372036854775807 by omega), Int.toNat_natCast, some_bind, shl_one m (by omega), List.length_replicate]
 rw [wrap_id (x := (n : Int) - 1) (by omega) (by omega)]
 refine EvP.ifp (by omega) (EvP.ifp (by omega) (EvP.ifp (by omega) (EvP.ifp (by omega) (EvP.ifp (by omega) (EvP.ifp (by omega) (EvP.ifp (by omega) ?_))))))
 refine impl_least_l0 f n _ (Nat.le_refl _) (by simp) (fun r h1 h2 => ?_)
 obtain rfl : r = n := by omega
 rw [getD_setS (by simp), if_pos rfl, Nat.sub_self]
 unfold rowDp
 refine List.ext_getElem (by simp) (fun s a b => ?_)
 simp [dp]
theorem impl_least_f {c : List (List Int)} {n m : Nat} (f : MatL c n m) (h0 : n = 0 → m = 0) : EvP (fun k => impl_least.f k c) (fun T => T.length = n + 1 ∧ ∀ r : Nat, r ≤ n → T.getD r [] = rowDp c n m (n - r)) := by
 have hl := f.len
 simp only [impl_least.f]
 by_cases hn : n = 0
 ·have hm := h0 hn
  subst hm
  exact EvP.ifn (by omega) (impl_least_j0 f)
 ·have hr := f.row 0 (by omega)
  have er : (rd_L1 c 0).length = m := by rw [show (0 : Int) = ((0 : Nat) : Int) from rfl, rdSS_n]; exact hr
  simp only [er]
  exact EvP.ifp (by omega) (EvP.ifp (by omega) (impl_least_j0 f))

structure Way (n m d S : Nat) (σ : Nat → Nat) : Prop where
 lt : ∀ r : Nat, n - d ≤ r → r < n → σ r < m ∧ S.testBit (σ r) = false
 inj : ∀ r q : Nat, n - d ≤ r → r < n → n - d ≤ q → q < n → σ r = σ q → r = q
def rsum (c : List (List Int)) (σ : Nat → Nat) (i d : Nat) : Int := sumA (fun q => cst c (i + q) (σ (i + q))) d
theorem rsum_step {c : List (List Int)} {σ : Nat → Nat} {i d : Nat} : rsum c σ i (d + 1) = cst c i (σ i) + rsum c σ (i + 1) d := by
 unfold rsum
 rw [sumA_head]
 congr 1
 exact sumA_congr d (fun q _ => by rw [show i + (q + 1) = i + 1 + q by omega])
theorem rsum_congr {c : List (List Int)} {σ τ : Nat → Nat} {i d : Nat} (h : ∀ r, i ≤ r → σ r = τ r) : rsum c σ i d = rsum c τ i d := by
 unfold rsum
 exact sumA_congr d (fun q _ => by rw [h (i + q) (by omega)])
def Best (c : List (List Int)) (n m d S : Nat) (v : Int) : Prop :=
 (v = -1 ∧ ∀ σ, ¬ Way n m d S σ) ∨ (0 ≤ v ∧ (∃ σ, Way n m d S σ ∧ rsum c σ (n - d) d = v) ∧ ∀ σ, Way n m d S σ → v ≤ rsum c σ (n - d) d)
def Tried (c : List (List Int)) (n m d S k : Nat) (v : Int) : Prop :=
 (v = -1 ∧ ∀ σ, Way n m d S σ → ¬ σ (n - d) < k) ∨ (0 ≤ v ∧ (∃ σ, Way n m d S σ ∧ σ (n - d) < k ∧ rsum c σ (n - d) d = v) ∧ ∀ σ, Way n m d S σ → σ (n - d) < k → v ≤ rsum c σ (n - d) d)
theorem bit_new {S k j : Nat} (h : (S ||| 2 ^ k).testBit j = false) : S.testBit j = false ∧ j ≠ k := by
 rw [bit_put_mem, Bool.or_eq_false_iff] at h
 exact ⟨h.1, fun e => by have := h.2; rw [decide_eq_false_iff_not] at this; exact this e.symm⟩
theorem bit_old {S k j : Nat} (h : S.testBit j = false) (hk : j ≠ k) : (S ||| 2 ^ k).testBit j = false := by
 rw [bit_put_mem, h, Bool.false_or, decide_eq_false_iff_not]
 exact fun e => hk e.symm
theorem Way.next {n m d S : Nat} {σ : Nat → Nat} (hd : d + 1 ≤ n) (W : Way n m (d + 1) S σ) : σ (n - (d + 1)) < m ∧ S.testBit (σ (n - (d + 1))) = false ∧ Way n m d (S ||| 2 ^ σ (n - (d + 1))) σ := by
 have h0 := W.lt (n - (d + 1)) (Nat.le_refl _) (by omega)
 refine ⟨h0.1, h0.2, fun r a b => ?_, fun r q a b a2 b2 e => W.inj r q (by omega) b (by omega) b2 e⟩
 have h1 := W.lt r (by omega) b
 refine ⟨h1.1, bit_old h1.2 (fun e => ?_)⟩
 have := W.inj r (n - (d + 1)) (by omega) b (Nat.le_refl _) (by omega) e
 omega
theorem Way.back {n m d S k : Nat} {τ : Nat → Nat} (hd : d + 1 ≤ n) (hk : k < m) (hb : S.testBit k = false) (W : Way n m d (S ||| 2 ^ k) τ) : Way n m (d + 1) S (fun r => if r = n - (d + 1) then k else τ r) := by
 refine ⟨fun r a b => ?_, fun r q a b a2 b2 e => ?_⟩
 ·by_cases e : r = n - (d + 1)
  ·simp only [if_pos e]; exact ⟨hk, hb⟩
  ·simp only [if_neg e]
   have := W.lt r (by omega) b
   exact ⟨this.1, (bit_new this.2).1⟩
 ·by_cases e1 : r = n - (d + 1)
  ·by_cases e2 : q = n - (d + 1)
   ·omega
   ·simp only [if_pos e1, if_neg e2] at e
    exact absurd e.symm (bit_new (W.lt q (by omega) b2).2).2
  ·by_cases e2 : q = n - (d + 1)
   ·simp only [if_neg e1, if_pos e2] at e
    exact absurd e (bit_new (W.lt r (by omega) b).2).2
   ·simp only [if_neg e1, if_neg e2] at e
    exact W.inj r q (by omega) b (by omega) b2 e
theorem rsum_back {c : List (List Int)} {n d k : Nat} {τ : Nat → Nat} (hd : d + 1 ≤ n) : rsum c (fun r => if r = n - (d + 1) then k else τ r) (n - (d + 1)) (d + 1) = cst c (n - (d + 1)) k + rsum c τ (n - d) d := by
 rw [rsum_step, show n - (d + 1) + 1 = n - d by omega]
 simp only [if_true]
 congr 1
 exact rsum_congr (fun r h => by rw [if_neg (by omega)])
theorem rsum_next {c : List (List Int)} {n d : Nat} {σ : Nat → Nat} (hd : d + 1 ≤ n) : rsum c σ (n - (d + 1)) (d + 1) = cst c (n - (d + 1)) (σ (n - (d + 1))) + rsum c σ (n - d) d := by
 rw [rsum_step, show n - (d + 1) + 1 = n - d by omega]
theorem dpTry_best {c : List (List Int)} {n m : Nat} (f : MatL c n m) {d : Nat} (hd : d + 1 ≤ n) (hb : ∀ S, Best c n m d S (dp c n m d S)) (S : Nat) : ∀ k : Nat, k ≤ m → Tried c n m (d + 1) S k (dpTry c (n - (d + 1)) (dp c n m d) S k)
 | 0, _ => .inl ⟨rfl, fun σ _ h => by omega⟩
 | k + 1, hk => by
  have ih := dpTry_best f hd hb S k (by omega)
  have cb := f.cost (n - (d + 1)) k (by omega) (by omega)
  have wid : ∀ {v : Int}, (∀ σ, Way n m (d + 1) S σ → σ (n - (d + 1)) ≠ k) → Tried c n m (d + 1) S k v → Tried c n m (d + 1) S (k + 1) v := fun hno ht => by
   rcases ht with ⟨a, b⟩ | ⟨a, ⟨σ, s1, s2, s3⟩, b⟩
   ·exact .inl ⟨a, fun σ W h => b σ W (by have := hno σ W; omega)⟩
   ·exact .inr ⟨a, ⟨σ, s1, by omega, s3⟩, fun τ W h => b τ W (by have := hno τ W; omega)⟩
  simp only [dpTry]
  by_cases h1 : S.testBit k = true
  ·rw [if_pos h1]
   exact wid (fun σ W e => by
    have := (W.lt (n - (d + 1)) (Nat.le_refl _) (by omega)).2
    rw [e, h1] at this; cases this) ih
  ·rw [if_neg h1]
   have h1' : S.testBit k = false := by simpa using h1
   by_cases h2 : dp c n m d (S ||| 2 ^ k) < 0
   ·rw [if_pos h2]
    refine wid (fun σ W e => ?_) ih
    have hw := (W.next hd).2.2
    rw [e] at hw
    rcases hb (S ||| 2 ^ k) with ⟨_, b⟩ | ⟨a, _⟩
    ·exact b σ hw
    ·omega
   ·rw [if_neg h2]
    rcases hb (S ||| 2 ^ k) with ⟨a, _⟩ | ⟨a, ⟨τ, t1, t2⟩, b⟩
    ·omega
    ·have hW := t1.back hd (show k < m by omega) h1'
     have hs := rsum_back (c := c) (k := k) (τ := τ) hd
     have low : ∀ σ, Way n m (d + 1) S σ → σ (n - (d + 1)) = k → cst c (n - (d + 1)) k + dp c n m d (S ||| 2 ^ k) ≤ rsum c σ (n - (d + 1)) (d + 1) := fun σ W e => by
      have hw := (W.next hd).2.2
      rw [e] at hw
      have := b σ hw
      rw [rsum_next hd, e]
      omega
     have new : (∀ σ, Way n m (d + 1) S σ → σ (n - (d + 1)) < k → cst c (n - (d + 1)) k + dp c n m d (S ||| 2 ^ k) ≤ rsum c σ (n - (d + 1)) (d + 1)) → Tried c n m (d + 1) S (k + 1) (cst c (n - (d + 1)) k + dp c n m d (S ||| 2 ^ k)) := fun hl =>
      .inr ⟨by omega, ⟨_, hW, by simp, by rw [hs, t2]⟩, fun σ W h => by
       by_cases e : σ (n - (d + 1)) = k
       ·exact low σ W e
       ·exact hl σ W (by omega)⟩
     rcases ih with ⟨a1, b1⟩ | ⟨a1, ⟨σ, s1, s2, s3⟩, b1⟩
     ·rw [if_pos (by omega)]
      exact new (fun σ W h => absurd h (b1 σ W))
     ·rw [if_neg (by omega)]
      by_cases h3 : cst c (n - (d + 1)) k + dp c n m d (S ||| 2 ^ k) < dpTry c (n - (d + 1)) (dp c n m d) S k
      ·rw [if_pos h3]
       exact new (fun σ W h => by have := b1 σ W h; omega)
      ·rw [if_neg h3]
       exact .inr ⟨a1, ⟨σ, s1, by omega, s3⟩, fun τ W h => by
        by_cases e : τ (n - (d + 1)) = k
        ·have := low τ W e; omega
        ·exact b1 τ W (by omega)⟩
theorem dp_best {c : List (List Int)} {n m : Nat} (f : MatL c n m) : ∀ d : Nat, d ≤ n → ∀ S, Best c n m d S (dp c n m d S)
 | 0, _, S => .inr ⟨Int.le_refl _, ⟨fun _ => 0, ⟨fun r a b => by omega, fun r q a b => by omega⟩, rfl⟩, fun σ _ => Int.le_refl _⟩
 | d + 1, hd, S => by
  have := dpTry_best f hd (dp_best f d (by omega)) S m (Nat.le_refl _)
  simp only [dp]
  rcases this with ⟨a, b⟩ | ⟨a, ⟨σ, s1, s2, s3⟩, b⟩
  ·exact .inl ⟨a, fun σ W => b σ W (W.lt (n - (d + 1)) (Nat.le_refl _) (by omega)).1⟩
  ·exact .inr ⟨a, ⟨σ, s1, s3⟩, fun τ W => b τ W (W.lt (n - (d + 1)) (Nat.le_refl _) (by omega)).1⟩
theorem dp_least {c : List (List Int)} {n m : Nat} (f : MatL c n m) : IsLeast c n m (dp c n m n 0) ∧ 0 ≤ dp c n m n 0 := by
 have hw : ∀ σ, Inj σ n m → Way n m n 0 σ := fun σ I => ⟨fun r a b => ⟨I.lt r b, Nat.zero_testBit _⟩, fun r q a b a2 b2 e => I.inj r q b b2 e⟩
 have he : ∀ σ, rsum c σ (n - n) n = asum c σ n := fun σ => by
  unfold rsum asum
  rw [Nat.sub_self]
  exact sumA_congr n (fun q _ => by rw [Nat.zero_add])
 have hn := f.nm
 rcases dp_best f n (Nat.le_refl _) 0 with ⟨_, b⟩ | ⟨a, ⟨σ, s1, s2⟩, b⟩
 ·exact absurd (hw (fun r => r) ⟨fun i hi => by omega, fun i k _ _ e => e⟩) (b _)
 ·refine ⟨⟨⟨σ, ⟨fun i hi => (s1.lt i (by omega) hi).1, fun i k hi hk e => s1.inj i k (by omega) hi (by omega) hk e⟩, by rw [← he]; exact s2⟩, fun τ I => ?_⟩, a⟩
  rw [← he]; exact b τ (hw τ I)
def PicksI (c : List (List Int)) (n m : Nat) : Nat → Nat → List Int → Prop
 | 0, _, cols => cols = []
 | d + 1, S, cols => ∃ (k : Nat) (rest : List Int), k < m ∧ S.testBit k = false ∧ 0 ≤ dp c n m d (S ||| 2 ^ k) ∧ cst c (n - (d + 1)) k + dp c n m d (S ||| 2 ^ k) = dp c n m (d + 1) S ∧
   (∀ q : Nat, q < k → S.testBit q = false → 0 ≤ dp c n m d (S ||| 2 ^ q) → cst c (n - (d + 1)) q + dp c n m d (S ||| 2 ^ q) ≠ dp c n m (d + 1) S) ∧ cols = (k : Int) :: rest ∧ PicksI c n m d (S ||| 2 ^ k) rest
theorem pick_some {c : List (List Int)} {n m : Nat} (f : MatL c n m) {d S : Nat} (hd : d + 1 ≤ n) (h : 0 ≤ dp c n m (d + 1) S) : ∃ k : Nat, k < m ∧ S.testBit k = false ∧ 0 ≤ dp c n m d (S ||| 2 ^ k) ∧ cst c (n - (d + 1)) k + dp c n m d (S ||| 2 ^ k) = dp c n m (d + 1) S := by
 rcases dp_best f (d + 1) hd S with ⟨a, _⟩ | ⟨a, ⟨σ, s1, s2⟩, b⟩
 ·omega
 ·obtain ⟨k1, k2, W⟩ := s1.next hd
  refine ⟨σ (n - (d + 1)), k1, k2, ?_⟩
  rcases dp_best f d (by omega) (S ||| 2 ^ σ (n - (d + 1))) with ⟨_, b2⟩ | ⟨a2, ⟨τ, t1, t2⟩, b2⟩
  ·exact absurd W (b2 σ)
  ·refine ⟨a2, ?_⟩
   have h1 := b2 σ W
   have h2 := b _ (t1.back hd k1 k2)
   rw [rsum_back hd, t2] at h2
   rw [rsum_next hd] at s2
   omega
theorem impl_Match_l0 {c : List (List Int)} {n m : Nat} (f : MatL c n m) {T : List (List Int)} (hT : T.length = n + 1) (hr : ∀ r : Nat, r ≤ n → T.getD r [] = rowDp c n m (n - r)) :
  ∀ (d i S : Nat) (acc : List Int), i + d = n → S < 2 ^ m → 0 ≤ dp c n m d S → acc.length ≤ i → EvP (fun k => impl_Match.l0 k T acc S c n i) (fun R => R.2 = dp c n m n 0 ∧ ∃ rest : List Int, R.1 = acc ++ rest ∧ PicksI c n m d S rest) := by
 have hm := f.m10
 have hn := f.nm
 have hcl := f.len
 have hp := pow_m hm
 intro d
 induction d with
 | zero =>
  intro i S acc h hS h0 ha
  have h1 := hr 0 (by omega)
  have er : rd_L1 T 0 = rowDp c n m n := by rw [show (0 : Int) = ((0 : Nat) : Int) from rfl, rdSS_n, h1, Nat.sub_zero]
  refine EvP.unroll ?_
  simp only [impl_Match.l0, er, rowDp_len]
  have e2 : rd (rowDp c n m n) 0 = dp c n m n 0 := by rw [show (0 : Int) = ((0 : Nat) : Int) from rfl, rd_nat', rowDp_get (by omega)]
  refine EvP.ifn (by omega) (EvP.ifp (by omega) (EvP.ifp (by omega) (EvP.now ⟨e2, [], by rw [List.append_nil], rfl⟩)))
 | succ d ihd =>
  intro i S acc h hS h0 ha
  have hi : i < n := by omega
  have hrow := f.row i hi
  have ni : n - (d + 1) = i := by omega
  refine EvP.unroll ?_
  simp only [impl_Match.l0, rdSS_n, hrow]
  refine EvP.ifp (by omega) (EvP.ifp (by omega) (EvP.ifp (by omega) ?_))
  have h1 := hr i (by omega)
  rw [show n - i = d + 1 by omega] at h1
  have h2 := hr (i + 1) (by omega)
  rw [show n - (i + 1) = d by omega] at h2
  obtain ⟨ks, ks1, ks2, ks3, ks4⟩ := pick_some f (d := d) (S := S) (by omega) h0
  rw [ni] at ks4
  suffices hs : ∀ (e k : Nat), k + e = m → (∀ q : Nat, q < k → S.testBit q = false → 0 ≤ dp c n m d (S ||| 2 ^ q) → cst c i q + dp c n m d (S ||| 2 ^ q) ≠ dp c n m (d + 1) S) →
    EvP (fun q => impl_Match.l1 q T acc S i (c.getD i []) c n i m k) (fun R => R.2 = dp c n m n 0 ∧ ∃ rest : List Int, R.1 = acc ++ rest ∧ PicksI c n m (d + 1) S rest) from hs m 0 (by omega) (fun q hq => by omega)
  intro e
  induction e with
  | zero =>
   intro k hk hq
   exact absurd ks4 (hq ks (by omega) ks2 ks3)
  | succ e ih =>
   intro k hk hq
   have hkm : k < m := by omega
   have b := bit_in S k (by omega) (by omega)
   obtain ⟨ep, _⟩ := bit_put S k (by omega) (by omega)
   have hor := or_lt hS hkm
   have db := dp_b f d (by omega) (S ||| 2 ^ k)
   have cb := f.cost i k hi hkm
   have hg1 : (T.getD (i + 1) []).getD (S ||| 2 ^ k) 0 = dp c n m d (S ||| 2 ^ k) := by rw [h2, rowDp_get hor]
   have hg0 : (T.getD i []).getD S 0 = dp c n m (d + 1) S := by rw [h1, rowDp_get hS]
   have hl1 : (T.getD (i + 1) []).length = 2 ^ m := by rw [h2, rowDp_len]
   have hl0 : (T.getD i []).length = 2 ^ m := by rw [h1, rowDp_len]
   have ew : wrap64 ((c.getD i []).getD k 0 + dp c n m d (S ||| 2 ^ k)) = cst c i k + dp c n m d (S ||| 2 ^ k) := wrap_id (x := cst c i k + dp c n m d (S ||| 2 ^ k)) (by omega) (by omega)
   refine EvP.unroll ?_
   simp only [impl_Match.l1, ep, wrap_sc (show i < 9223372036854775807 by omega), wrap_sc (show k < 9223372036854775807 by omega), rdSS_n, rd_nat', hg1, hg0, hl1, hl0, hrow, ew]
   refine EvP.ifp (by omega) (EvP.ifp (by omega) (evP_ite (fun hb => ?_) (fun hb => ?_)))
   ·refine ih (k + 1) (by omega) (fun q h1 h2 h3 => ?_)
    by_cases e : q = k
    ·subst e; rw [b.1 hb] at h2; cases h2
    ·exact hq q (by omega) h2 h3
   ·refine EvP.ifp (by omega) (EvP.ifp (by omega) (EvP.ifp (by omega) (EvP.ifp (by omega) (evP_ite (fun hd => ?_) (fun hd => ?_)))))
    ·refine ih (k + 1) (by omega) (fun q h1 h2 h3 => ?_)
     by_cases e : q = k
     ·subst e; omega
     ·exact hq q (by omega) h2 h3
    ·refine EvP.ifp (by omega) (EvP.ifp (by omega) (EvP.ifp (by omega) (EvP.ifp (by omega) (EvP.ifp (by omega) (evP_ite (fun he => ?_) (fun he => ?_))))))
     ·refine EvP.ifp (by omega) ?_
      obtain ⟨R, a1, a2, rest, a3, a4⟩ := ihd (i + 1) (S ||| 2 ^ k) (acc ++ [(k : Int)]) (by omega) hor (by omega) (by rw [List.length_append, List.length_singleton]; omega)
      have hnb : S.testBit k = false := by
       cases hx : S.testBit k with
       | false => rfl
       | true => exact absurd (b.2 hx) hb
      refine ⟨R, a1, a2, (k : Int) :: rest, by rw [a3, List.append_assoc]; rfl, k, rest, hkm, hnb, by omega, by rw [ni]; exact he, fun q x y z => by rw [ni]; exact hq q x y z, rfl, a4⟩
     ·refine ih (k + 1) (by omega) (fun q h1 h2 h3 => ?_)
      by_cases e : q = k
      ·subst e; exact he
      ·exact hq q (by omega) h2 h3
structure MatchedI (c : List (List Int)) (R : List Int × Int) : Prop where
 bad : costsOk c = false → R = ([], -1)
 some : costsOk c = true → ∀ n m : Nat, MatL c n m → (n = 0 → m = 0) → R.2 = dp c n m n 0 ∧ PicksI c n m n 0 R.1
theorem matL_of {c : List (List Int)} (f : CostFacts c) : ∃ n m : Nat, MatL c n m ∧ (n = 0 → m = 0) := by
 by_cases h : c = []
 ·subst h
  exact ⟨0, 0, ⟨rfl, Nat.le_refl _, by omega, fun i hi => by omega, fun i j hi => by omega⟩, fun _ => rfl⟩
 ·have g := mat_of f h
  exact ⟨_, _, g.l, fun e => by have := g.n1; omega⟩
theorem matL_dim {c : List (List Int)} {n m n' m' : Nat} (f : MatL c n m) (f0 : n = 0 → m = 0) (g : MatL c n' m') (g0 : n' = 0 → m' = 0) : n = n' ∧ m = m' := by
 have a := f.len
 have b := g.len
 by_cases h : n = 0
 ·have := f0 h; have := g0 (by omega); omega
 ·have e := f.row 0 (by omega)
  have e2 := g.row 0 (by omega)
  omega
theorem impl_Match_f (c : List (List Int)) : EvP (fun k => impl_Match.f k c) (MatchedI c) := by
 simp only [impl_Match.f]
 refine EvP.bind (Q := fun t => t = costsOk c) ⟨_, impl_CostsOk_f c, rfl⟩ ?_
 rintro _ rfl
 by_cases hc : costsOk c = true
 ·refine EvP.ifp hc ?_
  obtain ⟨n, m, f, f0⟩ := matL_of (costsOk_facts hc)
  refine EvP.bind (impl_least_f f f0) (fun T hT => ?_)
  have hcl := f.len
  have hp := pow_m f.m10
  obtain ⟨R, e, a, rest, b, p⟩ := impl_Match_l0 f hT.1 hT.2 n 0 0 [] (by omega) (by omega) (dp_least f).2 (by simp)
  rw [List.nil_append] at b
  rw [hcl]
  refine ⟨R, e, fun h => absurd h (by rw [hc]; simp), fun _ n' m' g g0 => ?_⟩
  obtain ⟨e1, e2⟩ := matL_dim f f0 g g0
  subst e1; subst e2
  exact ⟨a, by rw [b]; exact p⟩
 ·exact EvP.ifn hc (EvP.now ⟨fun _ => rfl, fun h => absurd h hc⟩)

theorem impl_hasInt_l0 (xs : List Int) (x : Int) (hn : xs.length ≤ BIG) : ∀ (d i : Nat), i + d = xs.length → Ev (fun k => impl_hasInt.l0 k x xs xs.length i) ((xs.drop i).contains x)
 | 0, i, h => Ev.unroll (by
   simp only [impl_hasInt.l0]
   simp only [if_neg (show ¬ (i : Int) < xs.length by omega)]
   exact Ev.fin (by rw [drop_end (by omega)]; rfl))
 | d + 1, i, h => Ev.unroll (by
   have hi : i < xs.length := by omega
   simp only [impl_hasInt.l0]
   simp only [if_pos (show (i : Int) < xs.length by omega), if_pos (show (0 : Int) ≤ i by omega), wrap_succ hi hn, rd_nat hi]
   rw [drop_cons hi, List.contains_cons]
   by_cases h1 : xs[i] = x
   ·simp only [if_pos h1]
    exact Ev.fin (by rw [h1]; simp)
   ·simp only [if_neg h1]
    rw [show (x == xs[i]) = false by simpa using fun e => h1 e.symm, Bool.false_or]
    exact impl_hasInt_l0 xs x hn d (i + 1) (by omega))
theorem impl_hasInt_f (xs : List Int) (x : Int) (hn : xs.length ≤ BIG) : Ev (fun k => impl_hasInt.f k xs x) (xs.contains x) := impl_hasInt_l0 xs x hn xs.length 0 (by omega)

def pricesOk (l : List Int) : Bool := allFrom l.length 0 (fun j => inB (l.getD j 0) (-1000000) 1000000)
def pairFine (c : List (List Int)) (cols rows prices : List Int) (i j : Nat) : Bool := decide (rows.getD i 0 + prices.getD j 0 ≤ (c.getD i []).getD j 0) && (!decide (cols.getD i 0 = (j : Int)) || decide (rows.getD i 0 + prices.getD j 0 = (c.getD i []).getD j 0))
def priceFine (cols prices : List Int) (j : Nat) : Bool := decide (prices.getD j 0 ≤ 0) && (cols.contains (j : Int) || decide (prices.getD j 0 = 0))
def rowsFine (c : List (List Int)) (cols rows prices : List Int) (i : Nat) : Bool := allFrom c.length i (fun i => allFrom prices.length 0 (pairFine c cols rows prices i))
def provesOf (c : List (List Int)) (cols rows prices : List Int) : Bool :=
 decide (0 ≤ sumOf c cols) && (decide (rows.length = c.length) && (decide (prices.length = (c.getD 0 []).length) && (pricesOk rows && (pricesOk prices && (rowsFine c cols rows prices 0 && allFrom prices.length 0 (priceFine cols prices))))))
theorem sumOf_ok {c : List (List Int)} {cols : List Int} (h : 0 ≤ sumOf c cols) : CostFacts c ∧ cols.length = c.length := by
 unfold sumOf at h
 by_cases h1 : costsOk c = true
 ·rw [if_pos h1] at h
  by_cases h2 : cols.length = c.length
  ·exact ⟨costsOk_facts h1, h2⟩
  ·rw [if_neg h2] at h; omega
 ·rw [if_neg h1] at h; omega
theorem prices_in {l : List Int} (h : pricesOk l = true) (j : Nat) : -1000000 ≤ l.getD j 0 ∧ l.getD j 0 ≤ 1000000 := by
 unfold pricesOk at h
 rw [allFrom_iff] at h
 by_cases hj : j < l.length
 ·exact inB_iff.1 (h j (by omega) hj)
 ·simp [List.getD, hj]
theorem impl_pricesOk_f (l : List Int) (hn : l.length ≤ 1048576) : Ev (fun k => impl_pricesOk.f k l) (pricesOk l) := by
 have key : ∀ (d i : Nat), i + d = l.length → Ev (fun k => impl_pricesOk.l0 k l l.length i) (allFrom l.length i (fun j => inB (l.getD j 0) (-1000000) 1000000)) := by
  intro d
  induction d with
  | zero =>
   intro i e
   refine Ev.unroll ?_
   simp only [impl_pricesOk.l0]
   exact Ev.ifn (by omega) (Ev.fin (allFrom_end (by omega)).symm)
  | succ d ih =>
   intro i e
   refine Ev.unroll ?_
   simp only [impl_pricesOk.l0, impl_in_f, some_bind, rd_nat', wrap_sc (show i < 9223372036854775807 by omega)]
   refine Ev.ifp (by omega) (Ev.ifp (by omega) (Ev.ifp (by omega) (ev_ite' (fun h => ?_) (fun h => Ev.fin ?_))))
   ·rw [allFrom_yes (by omega) h]; exact ih (i + 1) (by omega)
   ·rw [allFrom_no (by omega) (by simpa using h)]
 exact key l.length 0 (by omega)
theorem impl_Proves_l2 (cols prices : List Int) (hc : cols.length ≤ 10) (hp : prices.length ≤ 10) : ∀ (d j : Nat), j + d = prices.length → Ev (fun k => impl_Proves.l2 k cols prices prices.length j) (allFrom prices.length j (priceFine cols prices))
 | 0, j, e => Ev.unroll (by
   simp only [impl_Proves.l2]
   exact Ev.ifn (by omega) (Ev.fin (allFrom_end (by omega)).symm))
 | d + 1, j, e => Ev.unroll (by
   have ih := impl_Proves_l2 cols prices hc hp d (j + 1) (by omega)
   have hi := impl_hasInt_f cols j (show cols.length ≤ BIG by unfold BIG; omega)
   simp only [impl_Proves.l2, rd_nat', wrap_sc (show j < 9223372036854775807 by omega)]
   rw [allFrom_step (by omega)]
   refine Ev.ifp (by omega) (Ev.ifp (by omega) (Ev.ifp (by omega) (ev_ite' (fun h => Ev.fin ?_) (fun h => ev_ite' (fun h2 => ?_) (fun h2 => Ev.bind hi (ev_ite' (fun h3 => ?_) (fun h3 => Ev.fin ?_)))))))
   ·unfold priceFine; rw [decide_eq_false (by omega)]; rfl
   ·rw [show priceFine cols prices j = true by unfold priceFine; rw [decide_eq_true (show prices.getD j 0 ≤ 0 by omega), decide_eq_true h2, Bool.or_true]; rfl, Bool.true_and]; exact ih
   ·rw [show priceFine cols prices j = true by unfold priceFine; rw [decide_eq_true (show prices.getD j 0 ≤ 0 by omega), h3, Bool.true_or]; rfl, Bool.true_and]; exact ih
   ·unfold priceFine; rw [Bool.not_eq_true] at h3; rw [h3, decide_eq_false h2]; simp)
theorem impl_Proves_l1 (c : List (List Int)) (cols rows prices : List Int) (f : CostFacts c) (hcl : cols.length = c.length) (hrl : rows.length = c.length) (hr : pricesOk rows = true) (hp : pricesOk prices = true) (i : Nat) (hi : i < c.length) (hpl : (c.getD i []).length = prices.length) (R : Bool)
  (hR : Ev (fun k => impl_Proves.l0 k cols rows prices c c.length ((i + 1 : Nat) : Int)) R) : ∀ (d j : Nat), j + d = prices.length → Ev (fun k => impl_Proves.l1 k cols rows prices i c c.length i (c.getD i []) (c.getD i []).length j) (allFrom prices.length j (pairFine c cols rows prices i) && R)
 | 0, j, e => Ev.unroll (by
   have := f.n
   simp only [impl_Proves.l1, wrap_sc (show i < 9223372036854775807 by omega)]
   rw [allFrom_end (by omega), Bool.true_and]
   exact Ev.ifn (by omega) hR)
 | d + 1, j, e => Ev.unroll (by
   have := f.n
   have h10 := (f.row i hi).2.2
   have b1 := prices_in hr i
   have b2 := prices_in hp j
   have ih := impl_Proves_l1 c cols rows prices f hcl hrl hr hp i hi hpl R hR d (j + 1) (by omega)
   simp only [impl_Proves.l1, rd_nat', wrap_sc (show j < 9223372036854775807 by omega), wrap_id (show -9223372036854775808 ≤ rows.getD i 0 + prices.getD j 0 by omega) (by omega)]
   rw [allFrom_step (by omega)]
   refine Ev.ifp (by omega) (Ev.ifp (by omega) (Ev.ifp (by omega) (Ev.ifp (by omega) (Ev.ifp (by omega) (Ev.ifp (by omega) (ev_ite' (fun h => Ev.fin ?_) (fun h => Ev.ifp (by omega) (ev_ite' (fun h2 => ev_ite' (fun h3 => ?_) (fun h3 => Ev.fin ?_)) (fun h2 => ?_)))))))))
   ·unfold pairFine; rw [decide_eq_false (by omega)]; rfl
   ·rw [show pairFine c cols rows prices i j = true by unfold pairFine; rw [decide_eq_true (show rows.getD i 0 + prices.getD j 0 ≤ (c.getD i []).getD j 0 by omega), decide_eq_true h3, Bool.or_true]; rfl, Bool.true_and]; exact ih
   ·unfold pairFine; rw [decide_eq_true h2, decide_eq_false h3]; simp
   ·rw [show pairFine c cols rows prices i j = true by unfold pairFine; rw [decide_eq_true (show rows.getD i 0 + prices.getD j 0 ≤ (c.getD i []).getD j 0 by omega), decide_eq_false h2]; rfl, Bool.true_and]; exact ih)
theorem impl_Proves_l0 (c : List (List Int)) (cols rows prices : List Int) (f : CostFacts c) (hcl : cols.length = c.length) (hrl : rows.length = c.length) (hr : pricesOk rows = true) (hp : pricesOk prices = true) (hpl : prices.length = (c.getD 0 []).length) (hp10 : prices.length ≤ 10) : ∀ (d i : Nat), i + d = c.length → Ev (fun k => impl_Proves.l0 k cols rows prices c c.length i) (rowsFine c cols rows prices i && allFrom prices.length 0 (priceFine cols prices))
 | 0, i, e => Ev.unroll (by
   have := f.n
   simp only [impl_Proves.l0]
   unfold rowsFine
   rw [allFrom_end (by omega), Bool.true_and]
   exact Ev.ifn (by omega) (impl_Proves_l2 cols prices (by omega) hp10 prices.length 0 (by omega)))
 | d + 1, i, e => Ev.unroll (by
   have := f.n
   have ih := impl_Proves_l0 c cols rows prices f hcl hrl hr hp hpl hp10 d (i + 1) (by omega)
   have hri := (f.row i (by omega)).1
   simp only [impl_Proves.l0, rdSS_n]
   unfold rowsFine at ih ⊢
   rw [allFrom_step (show i < c.length by omega), Bool.and_assoc]
   exact Ev.ifp (by omega) (Ev.ifp (by omega) (Ev.ifp (by omega) (impl_Proves_l1 c cols rows prices f hcl hrl hr hp i (by omega) (by omega) _ ih prices.length 0 (by omega)))))
theorem impl_Proves_f (c : List (List Int)) (cols rows prices : List Int) (h1 : cols.length ≤ 1048576) (h2 : rows.length ≤ 1048576) (h3 : prices.length ≤ 1048576) : Ev (fun k => impl_Proves.f k c cols rows prices) (provesOf c cols rows prices) := by
 have no : provesOf c cols rows prices = false → Ev (fun k => impl_Proves.j1 k c cols rows prices true) (provesOf c cols rows prices) := fun e => Ev.unroll (by
  simp only [impl_Proves.j1]
  exact Ev.ifp trivial (Ev.fin e.symm))
 have main : Ev (fun k => impl_Proves.j0 k c cols rows prices ((c.getD 0 []).length : Int)) (provesOf c cols rows prices) := Ev.unroll (by
  simp only [impl_Proves.j0]
  refine Ev.bind (impl_SumOf_f c cols (by unfold BIG; omega)) (ev_ite' (fun hs => no ?_) (fun hs => ev_ite' (fun hrl => ev_ite' (fun hpl => Ev.bind (impl_pricesOk_f rows h2) (ev_ite' (fun hr => Ev.bind (impl_pricesOk_f prices h3) ?_) (fun hr => no ?_))) (fun hpl => no ?_)) (fun hrl => no ?_)))
  ·unfold provesOf; rw [decide_eq_false (by omega)]; rfl
  ·have hso := sumOf_ok (show 0 ≤ sumOf c cols by omega)
   by_cases hp : pricesOk prices = true
   ·rw [hp]
    have hp10 : prices.length ≤ 10 := by
     by_cases h0 : 0 < c.length
     ·have := (hso.1.row 0 h0).2.2; omega
     ·have : c = [] := List.length_eq_zero_iff.1 (by omega)
      have h8 : (c.getD 0 []).length = 0 := by rw [this]; rfl
      omega
    refine Ev.unroll ?_
    simp only [impl_Proves.j1]
    rw [show provesOf c cols rows prices = (rowsFine c cols rows prices 0 && allFrom prices.length 0 (priceFine cols prices)) by unfold provesOf; rw [decide_eq_true (show 0 ≤ sumOf c cols by omega), decide_eq_true (show rows.length = c.length by omega), decide_eq_true (show prices.length = (c.getD 0 []).length by omega), hr, hp]; rfl]
    exact Ev.ifn (by simp) (impl_Proves_l0 c cols rows prices hso.1 hso.2 (by omega) hr hp (by omega) hp10 c.length 0 (by omega))
   ·rw [Bool.not_eq_true] at hp
    rw [hp]
    exact no (by unfold provesOf; rw [hp]; simp)
  ·unfold provesOf; rw [Bool.not_eq_true] at hr; rw [hr]; simp
  ·unfold provesOf; rw [decide_eq_false (show ¬ prices.length = (c.getD 0 []).length by omega)]; simp
  ·unfold provesOf; rw [decide_eq_false (show ¬ rows.length = c.length by omega)]; simp)
 unfold impl_Proves.f
 by_cases h0 : 0 < c.length
 ·refine Ev.ifp (by omega) (Ev.ifp (by omega) ?_)
  rw [rdSS_z]
  exact main
 ·have e : c = [] := List.length_eq_zero_iff.1 (by omega)
  refine Ev.ifn (by omega) ?_
  rw [e] at main ⊢
  exact main
theorem rdB_nat {U : List Bool} {i : Nat} : rdOf false U (i : Int) = U.getD i false := by unfold rdOf; rw [Int.toNat_natCast]
theorem sumFrom_way {c : List (List Int)} {cols : List Int} (f : CostFacts c) (hl : cols.length = c.length) : ∀ (d i : Nat) (acc : Int), i + d = c.length → 0 ≤ sumFrom c cols d i acc →
  (∀ r : Nat, i ≤ r → r < c.length → inB (cols.getD r 0) 0 (((c.getD r []).length : Int) - 1) = true ∧ ¬ cols.getD r 0 ∈ cols.take r) ∧ sumFrom c cols d i acc = acc + sumA (fun q => rd (c.getD (i + q) []) (cols.getD (i + q) 0)) d
 | 0, i, acc, h, h0 => ⟨fun r a b => by omega, by simp [sumFrom, sumA]⟩
 | d + 1, i, acc, h, h0 => by
  simp only [sumFrom] at h0 ⊢
  by_cases h1 : inB (cols.getD i 0) 0 (((c.getD i []).length : Int) - 1) = true
  ·rw [if_pos h1] at h0 ⊢
   by_cases h2 : (cols.take i).contains (cols.getD i 0) = true
   ·rw [if_pos h2] at h0; omega
   ·rw [if_neg h2] at h0 ⊢
    obtain ⟨a, b⟩ := sumFrom_way f hl d (i + 1) _ (by omega) h0
    refine ⟨fun r x y => ?_, ?_⟩
    ·by_cases e : r = i
     ·subst e
      exact ⟨h1, fun hm => h2 (List.contains_iff_mem.2 hm)⟩
     ·exact a r (by omega) y
    ·rw [b, sumA_head, sumA_congr d (g := fun q => rd (c.getD (i + 1 + q) []) (cols.getD (i + 1 + q) 0)) (h := fun q => rd (c.getD (i + (q + 1)) []) (cols.getD (i + (q + 1)) 0)) (fun q _ => by rw [show i + 1 + q = i + (q + 1) by omega])]
     simp only [Nat.add_zero]
     omega
  ·rw [if_neg h1] at h0; omega
theorem sumOf_way {c : List (List Int)} {cols : List Int} {n m : Nat} (g : MatL c n m) (h : 0 ≤ sumOf c cols) :
  Inj (fun i => (cols.getD i 0).toNat) n m ∧ sumOf c cols = asum c (fun i => (cols.getD i 0).toNat) n ∧ ∀ i, i < n → 0 ≤ cols.getD i 0 := by
 obtain ⟨f, hl⟩ := sumOf_ok h
 have hcl := g.len
 have hok : costsOk c = true := by
  unfold sumOf at h
  cases hc : costsOk c with
  | true => rfl
  | false => rw [hc] at h; simp at h
 have e : sumOf c cols = sumFrom c cols c.length 0 0 := by unfold sumOf; rw [if_pos hok, if_pos hl]
 rw [e] at h
 obtain ⟨a, b⟩ := sumFrom_way f hl c.length 0 0 (by omega) h
 have hin : ∀ r, r < n → 0 ≤ cols.getD r 0 ∧ cols.getD r 0 < (m : Int) := fun r hr => by
  have h1 := inB_iff.1 (a r (by omega) (by omega)).1
  have h2 := g.row r hr
  omega
 have hd : ∀ r q, r < q → q < n → cols.getD r 0 ≠ cols.getD q 0 := fun r q h1 h2 e => by
  refine (a q (by omega) (by omega)).2 ?_
  rw [← e, getD_at (show r < cols.length by omega)]
  exact List.mem_iff_getElem.2 ⟨r, by rw [List.length_take]; omega, by rw [List.getElem_take]⟩
 refine ⟨⟨fun i hi => by have := hin i hi; omega, fun i k hi hk e => ?_⟩, ?_, fun i hi => (hin i hi).1⟩
 ·have h1 := hin i hi
  have h2 := hin k hk
  have e : cols.getD i 0 = cols.getD k 0 := by
   have e2 : (cols.getD i 0).toNat = (cols.getD k 0).toNat := e
   omega
  rcases Nat.lt_trichotomy i k with hlt | heq | hgt
  ·exact absurd e (hd i k hlt hk)
  ·exact heq
  ·exact absurd e.symm (hd k i hgt hi)
 ·rw [e, b, hcl]
  unfold asum
  rw [Int.zero_add]
  exact sumA_congr n (fun q hq => by rw [Nat.zero_add]; rfl)
theorem bits_and_small (x : Int) {m : Nat} (hm : m < 256) : 0 ≤ Go.bits .and .i64 x (m : Int) ∧ Go.bits .and .i64 x (m : Int) ≤ (m : Int) := by
 unfold Go.bits
 show 0 ≤ IntKind.i64.wrap ((BitVec.ofInt 64 x &&& BitVec.ofInt 64 (m : Int)).toNat : Int) ∧ IntKind.i64.wrap ((BitVec.ofInt 64 x &&& BitVec.ofInt 64 (m : Int)).toNat : Int) ≤ (m : Int)
 rw [BitVec.toNat_and, BitVec.ofInt_natCast, BitVec.toNat_ofNat, Nat.mod_eq_of_lt (show m < 2 ^ 64 by omega)]
 have h : (BitVec.ofInt 64 x).toNat &&& m ≤ m := Nat.and_le_right
 rw [i64_w, wrap_id (by omega) (by omega)]
 omega
theorem l1Byte_ok (b : List Int) (i h : Int) (hi : 0 ≤ i) (hb : b.length ≤ 1048576) : ∃ x i' h' : Int, spec_l1Byte.f b i h = some (x, i', h') ∧ 0 ≤ x ∧ x ≤ 255 ∧ 0 ≤ i' := by
 unfold spec_l1Byte.f
 by_cases h1 : i < (b.length : Int)
 ·rw [if_pos h1, if_pos hi, wrap_id (x := i + 1) (by omega) (by omega)]
  have := bits_and_small (m := 255) (wrap64 (Go.bits .and .i64 (Go.bits .xor .i64 (wrap64 (wrap64 (h * 6364136223846793005) + 1442695040888963407) / 8589934592) (wrap64 (wrap64 (h * 6364136223846793005) + 1442695040888963407) / 140737488355328)) 255 + wrap64 (rd b i))) (by omega)
  exact ⟨_, _, _, rfl, this.1, this.2, by omega⟩
 ·rw [if_neg h1]
  have := bits_and_small (m := 255) (Go.bits .xor .i64 (wrap64 (wrap64 (h * 6364136223846793005) + 1442695040888963407) / 8589934592) (wrap64 (wrap64 (h * 6364136223846793005) + 1442695040888963407) / 140737488355328)) (by omega)
  exact ⟨_, _, _, rfl, this.1, this.2, by omega⟩
theorem l1Below_ok (b : List Int) (i h n : Int) (hi : 0 ≤ i) (hb : b.length ≤ 1048576) : ∃ x i' h' : Int, spec_l1Below.f b i h n = some (x, i', h') ∧ 0 ≤ i' ∧ 0 ≤ x ∧ (0 < n → x < n) ∧ (n ≤ 0 → x = 0) := by
 unfold spec_l1Below.f
 by_cases h1 : n ≤ 0
 ·rw [if_pos h1]
  exact ⟨_, _, _, rfl, hi, by omega, by omega, fun _ => rfl⟩
 ·rw [if_neg h1]
  obtain ⟨x, i1, s1, e1, x0, x1, hi1⟩ := l1Byte_ok b i h hi hb
  rw [e1]
  simp only [some_bind]
  by_cases h2 : n ≤ 256
  ·rw [if_pos h2, if_neg (by omega)]
   refine ⟨_, _, _, rfl, hi1, ?_, fun _ => ?_, fun h => by omega⟩
   ·rw [Int.tmod_eq_emod_of_nonneg x0]; exact Int.emod_nonneg _ (by omega)
   ·rw [Int.tmod_eq_emod_of_nonneg x0]; exact Int.emod_lt_of_pos _ (by omega)
  ·rw [if_neg h2]
   obtain ⟨y, i2, s2, e2, y0, y1, hi2⟩ := l1Byte_ok b i1 s1 hi1 hb
   rw [e2]
   simp only [some_bind]
   obtain ⟨z, i3, s3, e3, z0, z1, hi3⟩ := l1Byte_ok b i2 s2 hi2 hb
   rw [e3]
   simp only [some_bind]
   rw [if_neg (by omega), wrap_id (x := x * 65536) (by omega) (by omega), wrap_id (x := y * 256) (by omega) (by omega), wrap_id (x := x * 65536 + y * 256) (by omega) (by omega), wrap_id (x := x * 65536 + y * 256 + z) (by omega) (by omega)]
   refine ⟨_, _, _, rfl, hi3, ?_, fun _ => ?_, fun h => by omega⟩
   ·rw [Int.tmod_eq_emod_of_nonneg (by omega)]; exact Int.emod_nonneg _ (by omega)
   ·rw [Int.tmod_eq_emod_of_nonneg (by omega)]; exact Int.emod_lt_of_pos _ (by omega)
theorem l1Int_ok (b : List Int) (i h : Int) (l : List Int) (hi : 0 ≤ i) (hb : b.length ≤ 1048576) (hl : 0 < l.length) (hl2 : l.length ≤ 1048576) : ∃ x i' h' : Int, spec_l1Int.f b i h l = some (x, i', h') ∧ 0 ≤ i' ∧ x ∈ l := by
 obtain ⟨x, i1, s1, e1, hi1, x0, x1, _⟩ := l1Below_ok b i h l.length hi hb
 have x2 := x1 (by omega)
 unfold spec_l1Int.f
 rw [e1]
 simp only [some_bind]
 rw [if_pos x0, if_pos x2]
 refine ⟨_, _, _, rfl, hi1, ?_⟩
 unfold rd
 rw [getD_at (by omega)]
 exact List.getElem_mem _
theorem l1New_ok (b : List Int) (hb : b.length ≤ 1048576) : ∃ h : Int, Ev (fun k => spec_l1New.f k b) (b, 0, h) := by
 have key : ∀ (d i : Nat) (h : Int), i + d = b.length → ∃ h' : Int, Ev (fun k => spec_l1New.l0 k b h i) (b, 0, h') := by
  intro d
  induction d with
  | zero =>
   intro i h e
   exact ⟨h, Ev.unroll (by simp only [spec_l1New.l0]; exact Ev.ifn (by omega) (Ev.now _))⟩
  | succ d ih =>
   intro i h e
   by_cases h4 : (i : Int) < 4000
   ·obtain ⟨h', hh⟩ := ih (i + 1) (Go.bits .and .i64 (wrap64 (wrap64 (wrap64 (h * 137) + wrap64 (rd b i)) + 11)) 1073741823) (by omega)
    refine ⟨h', Ev.unroll ?_⟩
    simp only [spec_l1New.l0]
    refine Ev.ifp (by omega) (Ev.ifp h4 (Ev.ifp (by omega) ?_))
    rw [wrap_sc (by omega)]
    exact hh
   ·exact ⟨h, Ev.unroll (by simp only [spec_l1New.l0]; exact Ev.ifp (by omega) (Ev.ifn h4 (Ev.now _)))⟩
 exact key b.length 0 _ (by omega)

theorem l1Below_E {b : List Int} {i h n : Int} (hi : 0 ≤ i) (hb : b.length ≤ 1048576) : EvP (fun _ => spec_l1Below.f b i h n) (fun R => 0 ≤ R.2.1 ∧ 0 ≤ R.1 ∧ (0 < n → R.1 < n) ∧ (n ≤ 0 → R.1 = 0)) := by
 obtain ⟨x, i', h', e, a⟩ := l1Below_ok b i h n hi hb
 exact ⟨(x, i', h'), Ev.const e, a⟩
theorem l1Int_E {b : List Int} {i h : Int} {l : List Int} (hi : 0 ≤ i) (hb : b.length ≤ 1048576) (hl : 0 < l.length) (hl2 : l.length ≤ 1048576) : EvP (fun _ => spec_l1Int.f b i h l) (fun R => 0 ≤ R.2.1 ∧ R.1 ∈ l) := by
 obtain ⟨x, i', h', e, a⟩ := l1Int_ok b i h l hi hb hl hl2
 exact ⟨(x, i', h'), Ev.const e, a⟩
theorem l4Prices_any {c : List (List Int)} (hc : costsOk c = true) : EvP (fun k => spec_l4Prices.f k c) (fun R => R.1.length ≤ 10 ∧ R.2.length ≤ 10) := by
 by_cases e : c = []
 ·subst e
  simp only [spec_l4Prices.f]
  exact EvP.ifp rfl (EvP.now ⟨by simp, by simp⟩)
 ·have f := mat_of (costsOk_facts hc) e
  obtain ⟨R, er, u, v, who, D, M, rfl⟩ := l4Prices_f f
  have h1 := D.lu
  have h2 := D.lv
  have h3 := f.nm
  have h4 := f.m10
  exact ⟨_, er, by simp only [List.length_drop]; omega, by simp only [List.length_drop]; omega⟩
structure UsB (m S : Nat) (us : List Bool) : Prop where
 len : us.length = m
 mem : ∀ j : Nat, j < m → us.getD j false = S.testBit j
theorem getD_setB {us : List Bool} {k q : Nat} {x : Bool} (h : k < us.length) : (us.set k x).getD q false = if q = k then x else us.getD q false := by
 rw [List.getD_eq_getElem?_getD, List.getElem?_set, List.getD_eq_getElem?_getD]
 by_cases e : q = k
 ·subst e; rw [if_pos rfl, if_pos rfl, if_pos h]; rfl
 ·rw [if_neg (fun h => e h.symm), if_neg e]
theorem UsB.put {m S k : Nat} {us : List Bool} (u : UsB m S us) (hk : k < m) : UsB m (S ||| 2 ^ k) (us.set k true) := by
 have hl := u.len
 refine ⟨by rw [List.length_set]; exact hl, fun j hj => ?_⟩
 rw [getD_setB (by omega), bit_put_mem, u.mem j hj]
 by_cases e : j = k
 ·rw [if_pos e, decide_eq_true e.symm, Bool.or_true]
 ·rw [if_neg e, decide_eq_false (fun h => e h.symm), Bool.or_false]
theorem UsB.back {m S k : Nat} {us : List Bool} (u : UsB m S us) (hk : k < m) (hb : S.testBit k = false) : (us.set k true).set k false = us := by
 have hl := u.len
 have h1 := u.mem k hk
 rw [hb, getD_at (by omega)] at h1
 rw [List.set_set, ← h1]
 exact List.set_getElem_self (by omega)
theorem UsB.none (m : Nat) : UsB m 0 (List.replicate m false) := ⟨by simp, fun j hj => by rw [getD_at (by simp; exact hj)]; simp⟩
theorem Way.swap {n m d S k : Nat} {σ : Nat → Nat} (hd : d + 1 ≤ n) (W : Way n m (d + 1) S σ) (hb : S.testBit k = false) : ∃ τ, Way n m d (S ||| 2 ^ k) τ := by
 have h0 := W.lt (n - (d + 1)) (Nat.le_refl _) (by omega)
 refine ⟨fun r => if σ r = k then σ (n - (d + 1)) else σ r, fun r a b => ?_, fun r q a b a2 b2 e => ?_⟩
 ·have h1 := W.lt r (by omega) b
  by_cases e : σ r = k
  ·simp only [if_pos e]
   refine ⟨h0.1, bit_old h0.2 (fun e2 => ?_)⟩
   have := W.inj r (n - (d + 1)) (by omega) b (Nat.le_refl _) (by omega) (by omega)
   omega
  ·simp only [if_neg e]
   exact ⟨h1.1, bit_old h1.2 e⟩
 ·by_cases e1 : σ r = k
  ·by_cases e2 : σ q = k
   ·exact W.inj r q (by omega) b (by omega) b2 (by omega)
   ·simp only [if_pos e1, if_neg e2] at e
    have := W.inj (n - (d + 1)) q (Nat.le_refl _) (by omega) (by omega) b2 e
    omega
  ·by_cases e2 : σ q = k
   ·simp only [if_neg e1, if_pos e2] at e
    have := W.inj r (n - (d + 1)) (by omega) b (Nat.le_refl _) (by omega) e
    omega
   ·simp only [if_neg e1, if_neg e2] at e
    exact W.inj r q (by omega) b (by omega) b2 e
theorem dp_more {c : List (List Int)} {n m : Nat} (f : MatL c n m) {d S k : Nat} (hd : d + 1 ≤ n) (h : 0 ≤ dp c n m (d + 1) S) (hb : S.testBit k = false) : 0 ≤ dp c n m d (S ||| 2 ^ k) := by
 rcases dp_best f (d + 1) hd S with ⟨a, _⟩ | ⟨_, ⟨σ, W, _⟩, _⟩
 ·omega
 ·obtain ⟨τ, T⟩ := W.swap hd hb
  rcases dp_best f d (by omega) (S ||| 2 ^ k) with ⟨_, b⟩ | ⟨a, _⟩
  ·exact absurd T (b τ)
  ·exact a
theorem least_f {c : List (List Int)} {n m : Nat} (f : MatL c n m) : ∀ (d i S : Nat) (us : List Bool), i + d = n → UsB m S us → 0 ≤ dp c n m d S → Ev (fun k => laws_least.f k c i us) (dp c n m d S, us)
 | 0, i, S, us, h, u, h0 => Ev.unroll (by
   have hl := f.len
   simp only [laws_least.f]
   exact Ev.ifp (by omega) (Ev.now _))
 | d + 1, i, S, us, h, u, h0 => Ev.unroll (by
   have hl := f.len
   have hm := f.m10
   have hn := f.nm
   have hr := f.row i (by omega)
   have hul := u.len
   have ni : n - (d + 1) = i := by omega
   simp only [laws_least.f]
   refine Ev.ifn (by omega) ?_
   suffices hs : ∀ (e j : Nat), j + e = m → Ev (fun k => laws_least.l0 k c i us (dpTry c i (dp c n m d) S j) j) (dp c n m (d + 1) S, us) from hs m 0 (by omega)
   intro e
   induction e with
   | zero =>
    intro j hj
    refine Ev.unroll ?_
    simp only [laws_least.l0, rdSS_n, hr]
    refine Ev.ifp (by omega) (Ev.ifp (by omega) (Ev.ifn (by omega) (Ev.fin ?_)))
    obtain rfl : j = m := by omega
    show _ = (dpTry c (n - (d + 1)) (dp c n j d) S j, us)
    rw [ni]
   | succ e ih =>
    intro j hj
    have hj2 : j < m := by omega
    have ub := u.mem j hj2
    have cb := f.cost i j (by omega) hj2
    refine Ev.unroll ?_
    simp only [laws_least.l0, rdSS_n, hr, rdB_nat, ub, rd_nat', wrap_sc (show i < 9223372036854775807 by omega), wrap_sc (show j < 9223372036854775807 by omega), Int.toNat_natCast]
    refine Ev.ifp (by omega) (Ev.ifp (by omega) (Ev.ifp (by omega) (Ev.ifp (by omega) (Ev.ifp (by omega) (ev_ite' (fun hb => ?_) (fun hb => ?_))))))
    ·have := ih (j + 1) (by omega)
     rw [show dpTry c i (dp c n m d) S (j + 1) = dpTry c i (dp c n m d) S j by simp only [dpTry]; rw [if_pos hb]] at this
     exact this
    ·have hnb : S.testBit j = false := by simpa using hb
     have h1 := dp_more f (show d + 1 ≤ n by omega) h0 hnb
     have db := dp_b f d (by omega) (S ||| 2 ^ j)
     have ew : wrap64 ((c.getD i []).getD j 0 + dp c n m d (S ||| 2 ^ j)) = cst c i j + dp c n m d (S ||| 2 ^ j) := wrap_id (x := cst c i j + dp c n m d (S ||| 2 ^ j)) (by omega) (by omega)
     refine Ev.bind (least_f f d (i + 1) (S ||| 2 ^ j) _ (by omega) (u.put hj2) h1) ?_
     simp only [some_bind, ew, u.back hj2 hnb]
     have ih := ih (j + 1) (by omega)
     rw [show dpTry c i (dp c n m d) S (j + 1) = if dpTry c i (dp c n m d) S j < 0 then cst c i j + dp c n m d (S ||| 2 ^ j) else if cst c i j + dp c n m d (S ||| 2 ^ j) < dpTry c i (dp c n m d) S j then cst c i j + dp c n m d (S ||| 2 ^ j) else dpTry c i (dp c n m d) S j by simp only [dpTry]; rw [if_neg hb, if_neg (by omega)]] at ih
     refine ev_ite' (fun h2 => ?_) (fun h2 => ev_ite' (fun h3 => ?_) (fun h3 => ?_))
     ·rw [if_pos h2] at ih; exact ih
     ·rw [if_neg h2, if_pos h3] at ih; exact ih
     ·rw [if_neg h2, if_neg h3] at ih; exact ih)
theorem PicksI_facts {c : List (List Int)} {n m : Nat} : ∀ (d S : Nat) (t : List Int), d ≤ n → PicksI c n m d S t →
  t.length = d ∧ (∀ q : Nat, q < d → 0 ≤ t.getD q 0 ∧ t.getD q 0 < (m : Int) ∧ S.testBit (t.getD q 0).toNat = false) ∧ (∀ q r : Nat, q < r → r < d → t.getD q 0 ≠ t.getD r 0) ∧ sumA (fun q => cst c (n - d + q) (t.getD q 0).toNat) d = dp c n m d S
 | 0, S, t, _, h => by
  rw [show t = [] from h]
  exact ⟨rfl, fun q hq => by omega, fun q r a b => by omega, rfl⟩
 | d + 1, S, t, hd, h => by
  obtain ⟨k, rest, hk, hb, _, e, _, rfl, p⟩ := h
  obtain ⟨h1, h2, h3, h4⟩ := PicksI_facts d (S ||| 2 ^ k) rest (by omega) p
  refine ⟨by rw [List.length_cons, h1], fun q hq => ?_, fun q r a b => ?_, ?_⟩
  ·cases q with
   | zero => exact ⟨by show (0 : Int) ≤ (k : Int); omega, by show (k : Int) < (m : Int); omega, hb⟩
   | succ q =>
    have := h2 q (by omega)
    exact ⟨this.1, this.2.1, (bit_new this.2.2).1⟩
  ·cases r with
   | zero => omega
   | succ r =>
    cases q with
    | zero =>
     have := h2 r (by omega)
     have h9 := (bit_new this.2.2).2
     show (k : Int) ≠ rest.getD r 0
     omega
    | succ q => exact h3 q r (by omega) (by omega)
  ·rw [sumA_head, ← e, ← h4]
   show cst c (n - (d + 1) + 0) (k : Int).toNat + sumA (fun q => cst c (n - (d + 1) + (q + 1)) (rest.getD q 0).toNat) d = _
   rw [Int.toNat_natCast, Nat.add_zero, sumA_congr d (fun q _ => by rw [show n - (d + 1) + (q + 1) = n - d + q by omega])]
theorem sumFrom_ok {c : List (List Int)} {cols : List Int} : ∀ (d i : Nat) (acc : Int), i + d = c.length →
  (∀ r : Nat, i ≤ r → r < c.length → inB (cols.getD r 0) 0 (((c.getD r []).length : Int) - 1) = true ∧ ¬ cols.getD r 0 ∈ cols.take r) → sumFrom c cols d i acc = acc + sumA (fun q => rd (c.getD (i + q) []) (cols.getD (i + q) 0)) d
 | 0, i, acc, h, h0 => by simp [sumFrom, sumA]
 | d + 1, i, acc, h, h0 => by
  have h1 := h0 i (Nat.le_refl _) (by omega)
  simp only [sumFrom]
  rw [if_pos h1.1, if_neg (fun hm => h1.2 (List.contains_iff_mem.1 hm)), sumFrom_ok d (i + 1) _ (by omega) (fun r a b => h0 r (by omega) b), sumA_head, sumA_congr d (g := fun q => rd (c.getD (i + 1 + q) []) (cols.getD (i + 1 + q) 0)) (h := fun q => rd (c.getD (i + (q + 1)) []) (cols.getD (i + (q + 1)) 0)) (fun q _ => by rw [show i + 1 + q = i + (q + 1) by omega])]
  simp only [Nat.add_zero]
  omega
theorem picks_sum {c : List (List Int)} {n m : Nat} (hc : costsOk c = true) (f : MatL c n m) {cols : List Int} (p : PicksI c n m n 0 cols) : cols.length = n ∧ sumOf c cols = dp c n m n 0 := by
 have hl := f.len
 obtain ⟨h1, h2, h3, h4⟩ := PicksI_facts n 0 cols (Nat.le_refl _) p
 refine ⟨h1, ?_⟩
 unfold sumOf
 rw [if_pos hc, if_pos (by omega), sumFrom_ok c.length 0 0 (by omega) (fun r _ hr => ⟨?_, fun hm => ?_⟩), Int.zero_add, ← h4, hl]
 ·refine sumA_congr n (fun q hq => ?_)
  have := h2 q hq
  rw [Nat.zero_add, Nat.sub_self, Nat.zero_add]
  rfl
 ·have := h2 r (by omega)
  have hr2 := f.row r (by omega)
  rw [inB_iff]
  omega
 ·obtain ⟨q, hq, e⟩ := List.mem_iff_getElem.1 hm
  rw [List.length_take] at hq
  rw [List.getElem_take] at e
  refine h3 q r (by omega) (by omega) ?_
  rw [getD_at (show q < cols.length by omega)]
  exact e
theorem sumA_tight {g h : Nat → Int} : ∀ n : Nat, (∀ i, i < n → g i ≤ h i) → sumA h n ≤ sumA g n → ∀ i, i < n → g i = h i
 | 0, _, _, i, hi => by omega
 | n + 1, e, s, i, hi => by
  have h1 := sumA_le n (fun i hi => e i (by omega))
  have h2 := e n (by omega)
  simp only [sumA] at s
  by_cases hn : i = n
  ·subst hn; omega
  ·exact sumA_tight n (fun i hi => e i (by omega)) (by omega) i (by omega)
theorem slack {c : List (List Int)} {n m : Nat} {u v : Nat → Int} {σ τ : Nat → Nat} (I : Inj σ n m) (feas : ∀ i j, i < n → j < m → u i + v j ≤ cst c i j) (neg : ∀ j, j < m → v j ≤ 0) (tight : ∀ i, i < n → cst c i (σ i) = u i + v (σ i)) (free : ∀ j, j < m → (∀ i, i < n → σ i ≠ j) → v j = 0)
  (J : Inj τ n m) (e : asum c τ n = asum c σ n) : (∀ i, i < n → u i + v (τ i) = cst c i (τ i)) ∧ ∀ j, j < m → (∀ i, i < n → τ i ≠ j) → v j = 0 := by
 have h1 : asum c σ n = sumA u n + sumA v m := by
  rw [sum_inj_eq n v I free, ← sumA_add]
  exact sumA_congr n tight
 have h2 : sumA (fun i => u i + v (τ i)) n ≤ asum c τ n := sumA_le n (fun i hi => feas i (τ i) hi (J.lt i hi))
 have h3 := sum_inj_le n v J neg
 have h4 := sumA_add (g := u) (h := fun i => v (τ i)) n
 refine ⟨fun i hi => sumA_tight n (fun i hi => feas i (τ i) hi (J.lt i hi)) (by unfold asum at *; omega) i hi, fun j hj hne => ?_⟩
 have h5 := sumA_clear (g := v) hj
 have h6 := sum_inj_le n (fun q => if q = j then 0 else v q) J (fun q hq => by split <;> first | exact Int.le_refl _ | exact neg q hq)
 rw [sumA_congr n (g := fun i => if τ i = j then 0 else v (τ i)) (h := fun i => v (τ i)) (fun i hi => if_neg (hne i hi))] at h6
 have := neg j hj
 omega
theorem du_way {c : List (List Int)} {n m : Nat} {who u v : List Int} (D : Du c n m who u v) (M : Ma m n who) :
  ∃ σ : Nat → Nat, Inj σ n m ∧ (∀ i j : Nat, i < n → j < m → rd u ((i : Int) + 1) + rd v ((j : Int) + 1) ≤ cst c i j) ∧ (∀ j : Nat, j < m → rd v ((j : Int) + 1) ≤ 0) ∧ (∀ i : Nat, i < n → cst c i (σ i) = rd u ((i : Int) + 1) + rd v ((σ i : Int) + 1)) ∧ ∀ j : Nat, j < m → (∀ i : Nat, i < n → σ i ≠ j) → rd v ((j : Int) + 1) = 0 := by
 obtain ⟨σ, I, hσ, _⟩ := least_of_du D M
 have cc : ∀ i j : Nat, ca c ((i : Int) + 1) ((j : Int) + 1) = cst c i j := fun i j => by
  unfold ca cst
  rw [show (i : Int) + 1 - 1 = (i : Int) by omega, show (j : Int) + 1 - 1 = (j : Int) by omega, rdSS_n, rd_nat']
 refine ⟨σ, I, fun i j a b => ?_, fun j a => (D.neg _ (by omega) (by omega)).2, fun i a => ?_, fun j a h => ?_⟩
 ·rw [← cc]; exact D.feas _ _ (by omega) (by omega) (by omega) (by omega)
 ·have h1 := hσ i a
  have h2 := I.lt i a
  have := D.tight ((σ i : Int) + 1) (by omega) (by omega) (by rw [h1]; omega)
  rw [h1, cc] at this
  exact this
 ·refine D.free _ (by omega) (by omega) (Classical.byContradiction fun hn => ?_)
  have h1 := M.rng ((j : Int) + 1) (by omega) (by omega)
  have hi : (rd who ((j : Int) + 1) - 1).toNat < n := by omega
  have h2 := hσ _ hi
  have h4 := I.lt _ hi
  have h3 := M.inj ((σ (rd who ((j : Int) + 1) - 1).toNat : Int) + 1) ((j : Int) + 1) (by omega) (by omega) (by omega) (by omega) (by rw [h2]; omega) (by rw [h2]; omega)
  exact h (rd who ((j : Int) + 1) - 1).toNat hi (by omega)
theorem getD_drop1 {u : List Int} (j : Nat) : (u.drop 1).getD j 0 = rd u ((j : Int) + 1) := by
 unfold rd
 rw [show ((j : Int) + 1).toNat = j + 1 by omega, List.getD_eq_getElem?_getD, List.getD_eq_getElem?_getD, List.getElem?_drop, Nat.add_comm]
theorem picks_prove {c : List (List Int)} {n m : Nat} (hc : costsOk c = true) (F : Mat c n m) {cols : List Int} (p : PicksI c n m n 0 cols) {who u v : List Int} (D : Du c n m who u v) (M : Ma m n who) : provesOf c cols (u.drop 1) (v.drop 1) = true := by
 have f := F.l
 have hl := f.len
 have hn := f.nm
 have hn1 := F.n1
 obtain ⟨L, h0⟩ := dp_least f
 obtain ⟨hcl, es⟩ := picks_sum hc f p
 have h0s : 0 ≤ sumOf c cols := by omega
 obtain ⟨J, ea, hpos⟩ := sumOf_way f h0s
 obtain ⟨σ, I, feas, neg, tight, free⟩ := du_way D M
 have L2 := dual (u := fun i => rd u ((i : Int) + 1)) (v := fun j => rd v ((j : Int) + 1)) I feas neg tight free
 have e := L2.one L
 obtain ⟨t1, t2⟩ := slack (u := fun i => rd u ((i : Int) + 1)) (v := fun j => rd v ((j : Int) + 1)) I feas neg tight free J (by omega)
 have hlu := D.lu
 have hlv := D.lv
 have h00 := f.row 0 (by omega)
 have el : (v.drop 1).length = m := by rw [List.length_drop]; omega
 have eu : (u.drop 1).length = n := by rw [List.length_drop]; omega
 unfold provesOf
 rw [el, eu, hl, h00]
 simp only [Bool.and_eq_true, decide_eq_true_eq]
 refine ⟨h0s, trivial, trivial, ?_, ?_, ?_, ?_⟩
 ·unfold pricesOk
  rw [allFrom_iff]
  intro i _ hi
  have := D.pos ((i : Int) + 1) (by omega) (by omega)
  rw [getD_drop1, inB_iff]; omega
 ·unfold pricesOk
  rw [allFrom_iff]
  intro i _ hi
  have := D.neg ((i : Int) + 1) (by omega) (by omega)
  rw [getD_drop1, inB_iff]; omega
 ·unfold rowsFine
  rw [allFrom_iff]
  intro i _ hi
  rw [allFrom_iff]
  intro j _ hj
  have h1 := feas i j (by omega) (by omega)
  have h2 := t1 i (by omega)
  unfold pairFine
  rw [getD_drop1, getD_drop1]
  simp only [Bool.and_eq_true, Bool.or_eq_true, Bool.not_eq_true', decide_eq_true_eq, decide_eq_false_iff_not]
  refine ⟨h1, ?_⟩
  by_cases ej : cols.getD i 0 = (j : Int)
  ·refine .inr ?_
   simp only [ej, Int.toNat_natCast] at h2
   exact h2
  ·exact .inl ej
 ·rw [allFrom_iff]
  intro j _ hj
  have h1 := neg j (by omega)
  unfold priceFine
  rw [getD_drop1]
  simp only [Bool.and_eq_true, Bool.or_eq_true, decide_eq_true_eq]
  refine ⟨h1, ?_⟩
  by_cases hx : cols.contains (j : Int) = true
  ·exact .inl hx
  ·refine .inr (t2 j (by omega) (fun i hi e2 => hx (List.contains_iff_mem.2 ?_)))
   have h3 := hpos i hi
   have e2 : (cols.getD i 0).toNat = j := e2
   refine List.mem_iff_getElem.2 ⟨i, by omega, ?_⟩
   rw [← getD_at (d := 0) (show i < cols.length by omega)]
   omega
def GoodR (m : Nat) (c : List (List Int)) : Prop := ∀ x ∈ c, x.length = m ∧ ∀ y ∈ x, 0 ≤ y ∧ y ≤ 100000
theorem getD_memR {c : List (List Int)} {i : Nat} (h : i < c.length) : c.getD i [] ∈ c := by rw [getD_at h]; exact List.getElem_mem h
theorem getD_memI {c : List Int} {i : Nat} (h : i < c.length) : c.getD i 0 ∈ c := by rw [getD_at h]; exact List.getElem_mem h
theorem costsOk_of {c : List (List Int)} {n m : Nat} (hl : c.length = n) (hn : n ≤ m) (hm : m ≤ 10) (g : GoodR m c) : costsOk c = true := by
 unfold costsOk
 simp only [Bool.and_eq_true, decide_eq_true_eq]
 refine ⟨by omega, ?_⟩
 rw [allFrom_iff]
 intro i _ hi
 have h1 := g _ (getD_memR hi)
 have h0 := g _ (getD_memR (show 0 < c.length by omega))
 unfold rowOk
 simp only [Bool.and_eq_true, decide_eq_true_eq]
 refine ⟨⟨by omega, by omega, by omega⟩, ?_⟩
 rw [allFrom_iff]
 intro j _ hj
 rw [inB_iff]
 exact h1.2 _ (getD_memI hj)
theorem drawn_l0 {b : List Int} (hb : b.length ≤ 1048576) {n m : Nat} (hn : n ≤ m) (hm : m ≤ 10) : ∀ (d i : Nat) (acc : List (List Int)) (p h : Int), i + d = n → 0 ≤ p → acc.length = i → GoodR m acc →
  EvP (fun k => spec_l4Draw.l0 k n m acc i b p h) (fun R => R.1.length = n ∧ GoodR m R.1)
 | 0, i, acc, p, h, e, hp, ha, hx => EvP.unroll (by
   simp only [spec_l4Draw.l0]
   exact EvP.ifn (by omega) (EvP.now ⟨show acc.length = n by omega, hx⟩))
 | d + 1, i, acc, p, h, e, hp, ha, hx => EvP.unroll (by
   simp only [spec_l4Draw.l0]
   refine EvP.ifp (by omega) ?_
   suffices hs : ∀ (d2 j : Nat) (row : List Int) (p h : Int), j + d2 = m → 0 ≤ p → row.length = j → (∀ y ∈ row, 0 ≤ y ∧ y ≤ 100000) → EvP (fun k => spec_l4Draw.l1 k n m acc i row j b p h) (fun R => R.1.length = n ∧ GoodR m R.1) from hs m 0 [] p h (by omega) hp rfl (fun y hy => by cases hy)
   intro d2
   induction d2 with
   | zero =>
    intro j row p h e2 hp hr hy
    refine EvP.unroll ?_
    simp only [spec_l4Draw.l1, wrap_sc (show i < 9223372036854775807 by omega)]
    refine EvP.ifn (by omega) (EvP.ifp (by omega) (drawn_l0 hb hn hm d (i + 1) (acc ++ [row]) p h (by omega) hp (by rw [List.length_append, List.length_singleton]; omega) (fun x hx2 => ?_)))
    rcases List.mem_append.1 hx2 with h | h
    ·exact hx x h
    ·have e3 : x = row := by simpa using h
     rw [e3]; exact ⟨by omega, hy⟩
   | succ d2 ih =>
    intro j row p h e2 hp hr hy
    refine EvP.unroll ?_
    simp only [spec_l4Draw.l1, wrap_sc (show j < 9223372036854775807 by omega)]
    refine EvP.ifp (by omega) (EvP.bind (l1Below_E hp hb) (fun R hR => EvP.bind (l1Int_E hR.1 hb (by simp) (by simp)) (fun R2 hR2 => ?_)))
    have h20 := hR.2.2.1 (by decide)
    have hR0 := hR.2.1
    refine EvP.ifp (by omega) (ih (j + 1) (row ++ [R2.1]) R2.2.1 R2.2.2 (by omega) hR2.1 (by rw [List.length_append, List.length_singleton]; omega) (fun y hy2 => ?_))
    rcases List.mem_append.1 hy2 with h | h
    ·exact hy y h
    ·have e3 : y = R2.1 := by simpa using h
     have hm2 := hR2.2
     simp only [List.mem_cons, List.mem_nil_iff, or_false] at hm2
     rw [e3]; omega)
theorem DrawCosts_E {b : List Int} (hb : b.length ≤ 1048576) : EvP (fun k => spec_DrawCosts.f k b) (fun R => costsOk R.1 = true ∧ (R.1 ≠ [] → ∃ (n m : Nat) (who u v : List Int), Mat R.1 n m ∧ Du R.1 n m who u v ∧ Ma m n who ∧ R.2 = (u.drop 1, v.drop 1))) := by
 obtain ⟨h, e⟩ := l1New_ok b hb
 simp only [spec_DrawCosts.f]
 refine EvP.bind (Q := fun R => R.1 = b ∧ 0 ≤ R.2.1) ⟨_, e, rfl, Int.le_refl _⟩ ?_
 rintro ⟨b', p, h'⟩ ⟨rfl, hp⟩
 refine EvP.bind (Q := fun R => costsOk R.1 = true) ?_ (fun R hc => ?_)
 ·simp only [spec_l4Draw.f]
  refine EvP.bind (l1Below_E hp hb) (fun R hR => EvP.bind (l1Below_E hR.1 hb) (fun R2 hR2 => ?_))
  have a1 := hR.2.2.1 (by decide)
  have a2 := hR2.2.2.1 (by decide)
  have b1 := hR.2.1
  have b2 := hR2.2.1
  rw [wrap_id (x := R.1 + R2.1) (by omega) (by omega)]
  obtain ⟨n, hn⟩ : ∃ n : Nat, R.1 = (n : Int) := ⟨R.1.toNat, by omega⟩
  obtain ⟨q, hq⟩ : ∃ q : Nat, R2.1 = (q : Int) := ⟨R2.1.toNat, by omega⟩
  rw [hn, hq, show (n : Int) + (q : Int) = ((n + q : Nat) : Int) by omega]
  obtain ⟨T, eT, h1, h2⟩ := drawn_l0 hb (n := n) (m := n + q) (by omega) (by omega) n 0 [] R2.2.1 R2.2.2 (by omega) hR2.1 rfl (fun x hx => by cases hx)
  exact ⟨T, eT, costsOk_of h1 (by omega) (by omega) h2⟩
 ·by_cases hn : R.1 = []
  ·obtain ⟨P, eP, _⟩ := l4Prices_any hc
   exact EvP.bind (Q := fun _ => True) ⟨P, eP, trivial⟩ (fun P _ => EvP.now ⟨hc, fun h => absurd hn h⟩)
  ·have F := mat_of (costsOk_facts hc) hn
   refine EvP.bind (l4Prices_f F) (fun P hP => EvP.now ⟨hc, fun _ => ?_⟩)
   obtain ⟨u, v, who, D, M, e⟩ := hP
   exact ⟨_, _, who, u, v, F, D, M, by rw [e]⟩
theorem dropK {t rest : List Int} {i : Nat} {k : Int} (h : t.drop i = k :: rest) : t.getD i 0 = k ∧ t.drop (i + 1) = rest ∧ i < t.length := by
 have hl : i < t.length := by
  refine Classical.byContradiction fun hn => ?_
  rw [List.drop_eq_nil_of_le (by omega)] at h
  cases h
 rw [List.drop_eq_getElem_cons hl] at h
 injection h with h1 h2
 exact ⟨by rw [getD_at hl]; exact h1, h2, hl⟩
theorem matched_l0 {c : List (List Int)} {n m : Nat} (f : MatL c n m) {cols : List Int} (hcl : cols.length = n) : ∀ (d i S : Nat) (us : List Bool) (so : Int), i + d = n → UsB m S us → 0 ≤ dp c n m d S → PicksI c n m d S (cols.drop i) → 0 ≤ so → so ≤ 100000 * (i : Int) → so + dp c n m d S = dp c n m n 0 →
  Ev (fun k => laws_FnMatched.l0 k c cols (dp c n m n 0) us so i) true
 | 0, i, S, us, so, h, u, h0, p, s0, s1, es => Ev.unroll (by
   have hl := f.len
   simp only [laws_FnMatched.l0]
   exact Ev.ifn (by omega) (Ev.now _))
 | d + 1, i, S, us, so, h, u, h0, p, s0, s1, es => Ev.unroll (by
   have hl := f.len
   have hm := f.m10
   have hn := f.nm
   have hr := f.row i (by omega)
   have hul := u.len
   obtain ⟨k, rest, hk, hb, hk0, ek, hne, ec, p2⟩ := p
   obtain ⟨e1, e2, hi⟩ := dropK ec
   rw [show n - (d + 1) = i by omega] at ek hne
   have cb := f.cost i k (by omega) hk
   simp only [laws_FnMatched.l0]
   refine Ev.ifp (by omega) ?_
   suffices hs : ∀ (e j : Nat), j + e = k → Ev (fun q => laws_FnMatched.l1 q c cols (dp c n m n 0) us so i j) true from hs k 0 (by omega)
   intro e
   induction e with
   | zero =>
    intro j hj
    obtain rfl : j = k := by omega
    refine Ev.unroll ?_
    simp only [laws_FnMatched.l1, rd_nat', e1, rdSS_n, hr, Int.toNat_natCast, wrap_sc (show i < 9223372036854775807 by omega)]
    rw [wrap_id (x := so + (c.getD i []).getD j 0) (by unfold cst at cb; omega) (by unfold cst at cb; omega)]
    refine Ev.ifp (by omega) (Ev.ifp (by omega) (Ev.ifn (by omega) (Ev.ifp (by omega) (Ev.ifp (by omega) (Ev.ifp (by omega) (Ev.ifp (by omega) ?_))))))
    exact matched_l0 f hcl d (i + 1) (S ||| 2 ^ j) _ (so + cst c i j) (by omega) (u.put hk) hk0 (by rw [e2]; exact p2) (by omega) (by omega) (by omega)
   | succ e ih =>
    intro j hj
    have hjm : j < m := by omega
    have ub := u.mem j hjm
    have cj := f.cost i j (by omega) hjm
    have ih := ih (j + 1) (by omega)
    refine Ev.unroll ?_
    simp only [laws_FnMatched.l1, rd_nat', e1, rdSS_n, hr, rdB_nat, ub, Int.toNat_natCast, wrap_sc (show i < 9223372036854775807 by omega), wrap_sc (show j < 9223372036854775807 by omega)]
    refine Ev.ifp (by omega) (Ev.ifp (by omega) (Ev.ifp (by omega) (Ev.ifp (by omega) (Ev.ifp (by omega) (ev_ite' (fun hb2 => ih) (fun hb2 => Ev.ifp (by omega) (Ev.ifp (by omega) ?_)))))))
    have hnb : S.testBit j = false := by simpa using hb2
    have h1 := dp_more f (show d + 1 ≤ n by omega) h0 hnb
    have db := dp_b f d (by omega) (S ||| 2 ^ j)
    have hq := hne j (by omega) hnb h1
    refine Ev.bind (least_f f d (i + 1) (S ||| 2 ^ j) _ (by omega) (u.put hjm) h1) ?_
    simp only [u.back hjm hnb]
    have ew1 : wrap64 (so + (c.getD i []).getD j 0) = so + cst c i j := wrap_id (x := so + cst c i j) (by omega) (by omega)
    rw [ew1, wrap_id (x := so + cst c i j + dp c n m d (S ||| 2 ^ j)) (by omega) (by omega)]
    exact Ev.ifn (by omega) ih)
theorem FnMatched : laws_FnMatched.Pure := by
 intro l h1 h2 h3
 refine Ev.rounds ?_
 unfold laws_FnMatched.f
 by_cases hb : l.length ≤ 1048576
 ·obtain ⟨R, e, hc, hR⟩ := DrawCosts_E hb
  obtain ⟨M, e2, hM⟩ := impl_Match_f R.1
  have ok := impl_CostsOk_f R.1
  rw [hc] at ok
  have big : laws_big.f l = some false := by unfold laws_big.f; rw [decide_eq_false (by omega)]
  rw [big]
  simp only [some_bind]
  refine Ev.ifn (by simp) (Ev.bind e (Ev.bind e2 ?_))
  by_cases hn : R.1 = []
  ·obtain ⟨hs, hp⟩ := hM.some hc 0 0 ⟨by rw [hn]; rfl, Nat.le_refl _, by omega, fun i hi => by omega, fun i j hi => by omega⟩ (fun _ => rfl)
   have hp : M.1 = [] := hp
   have hs : M.2 = 0 := hs
   refine Ev.ifp (by rw [hn]; rfl) (Ev.ifp (by rw [hp]; rfl) (Ev.ifp hs (Ev.bind ok (Ev.now _))))
  ·obtain ⟨n, m, who, u, v, F, D, Ma, eR⟩ := hR hn
   have f := F.l
   have hl := f.len
   have hn1 := F.n1
   have hm := f.m10
   have hnm := f.nm
   have hr0 := f.row 0 (by omega)
   have er : (rd_L1 R.1 0).length = m := by rw [show (0 : Int) = ((0 : Nat) : Int) from rfl, rdSS_n]; exact hr0
   obtain ⟨hs, p⟩ := hM.some hc n m f (fun h => by omega)
   obtain ⟨_, h0⟩ := dp_least f
   obtain ⟨hcl, es⟩ := picks_sum hc f p
   have s1 := impl_SumOf_f R.1 M.1 (show M.1.length ≤ BIG by unfold BIG; omega)
   have hlu := D.lu
   have hlv := D.lv
   have l2 : R.2.1.length ≤ 1048576 := by rw [eR]; simp only [List.length_drop]; omega
   have l3 : R.2.2.length ≤ 1048576 := by rw [eR]; simp only [List.length_drop]; omega
   have p1 := impl_Proves_f R.1 M.1 R.2.1 R.2.2 (by omega) l2 l3
   rw [show provesOf R.1 M.1 R.2.1 R.2.2 = true by rw [eR]; exact picks_prove hc F p D Ma] at p1
   have le := least_f f n 0 0 _ (by omega) (UsB.none m) h0
   simp only [er, Int.toNat_natCast]
   refine Ev.ifn (by omega) (Ev.ifp (by omega) (Ev.ifp (by omega) (Ev.ifp (by omega) (Ev.bind le (Ev.ifp hs (Ev.bind s1 (Ev.ifp (by omega) (Ev.bind p1 ?_))))))))
   refine Ev.unroll ?_
   simp only [laws_FnMatched.j0]
   refine Ev.ifn (by simp) ?_
   rw [hs]
   exact matched_l0 f hcl n 0 0 _ 0 (by omega) (UsB.none m) h0 p (by omega) (by omega) (by omega)
 ·have big : laws_big.f l = some true := by unfold laws_big.f; rw [decide_eq_true (by omega)]
  rw [big]
  simp only [some_bind]
  exact Ev.ifp trivial (Ev.now _)

end Go.Proofs.Ytbebfhlejnidkaa.Pure
