/- Proved here: the law FnExactProves, over numbers and lists: for all arguments it returns true; no condition. -/
import Derived.Test.YtjeonneegmhcdaaPFnExactProvesx8
namespace Go.Proofs.Ytjeonneegmhcdaa.Pure
open Go.RowKit Go.Proofs.Ytjeonneegmhcdaa.PFnExactProves Go.Proofs.YtjeonneegmhcdaaW.PrintWords Go.Proofs.YtjeonneegmhcdaaW.PrintLast
set_option linter.unusedVariables false
set_option linter.unusedSimpArgs false

/-! #### base -/
/-! Words of this session: rounds, whole numbers in their bounds, reading by index. -/
theorem Ev.unroll {α : Type} {g : Nat → Option α} {r : α} (h : Ev (fun k => g (k + 1)) r) : Ev g r := Ev.step (fun _ => rfl) h
theorem Ev.const {α : Type} {x : Option α} {r : α} (h : x = some r) : Ev (fun _ => x) r := ⟨0, fun _ _ => h⟩
theorem Ev.fin {α : Type} {r s : α} (h : r = s) : Ev (fun _ => some r) s := by rw [h]; exact Ev.now _
theorem wrap_id {x : Int} (h0 : -9223372036854775808 ≤ x) (h1 : x ≤ 9223372036854775807) : wrap64 x = x := by unfold wrap64; omega
/-- The bound of all lengths here. -/
abbrev BIG : Nat := 4611686018427387904
theorem wrap_succ {i n : Nat} (h : i < n) (hn : n ≤ BIG) : wrap64 ((i : Int) + 1) = ((i + 1 : Nat) : Int) := by unfold wrap64; unfold BIG at hn; omega
theorem wrap_pred {i n : Nat} (h : i < n) (h0 : 0 < i) (hn : n ≤ BIG) : wrap64 ((i : Int) - 1) = ((i - 1 : Nat) : Int) := by unfold wrap64; unfold BIG at hn; omega
theorem rd_nat {xs : List Int} {i : Nat} (h : i < xs.length) : rd xs (i : Int) = xs[i] := by unfold rd; simp [List.getD, h]
theorem getD_nat {α : Type} {xs : List α} {d : α} {i : Nat} (h : i < xs.length) : xs.getD (i : Int).toNat d = xs[i] := by simp [List.getD, h]
theorem getD_zero {α : Type} {xs : List α} {d : α} (h : 0 < xs.length) : xs.getD (0 : Int).toNat d = xs[0] := by simp [List.getD, h]
theorem drop_cons {α : Type} {xs : List α} {i : Nat} (h : i < xs.length) : xs.drop i = xs[i] :: xs.drop (i + 1) := List.drop_eq_getElem_cons h
theorem drop_end {α : Type} {xs : List α} {i : Nat} (h : xs.length ≤ i) : xs.drop i = [] := List.drop_of_length_le h
/-- A list filled from the front, by index. -/
theorem fill_step {α : Type} (ys zs : List α) (x : α) {i : Nat} (hi : i = ys.length) (hz : 0 < zs.length) : (ys ++ zs).set i x = (ys ++ [x]) ++ zs.drop 1 := by
  subst hi
  match zs, hz with
  | z :: zs, _ => simp
theorem set_id {α : Type} (xs : List α) (i : Nat) (h : i < xs.length) : xs.set i xs[i] = xs := by
  apply List.ext_getElem
  · simp
  · intro j h1 h2
    rw [List.getElem_set]
    split
    · rename_i e; subst e; rfl
    · rfl
theorem some_bind {α β : Type} (a : α) (f : α → Option β) : (some a).bind f = f a := rfl
theorem getD_at {α : Type} {xs : List α} {d : α} {i : Nat} (h : i < xs.length) : xs.getD i d = xs[i] := by simp [List.getD, h]
/-- All places from i on, below n. -/
def allFrom (n i : Nat) (p : Nat → Bool) : Bool := (List.range' i (n - i)).all p
theorem allFrom_end {n i : Nat} {p : Nat → Bool} (h : n ≤ i) : allFrom n i p = true := by
  unfold allFrom
  rw [show n - i = 0 by omega]; rfl
theorem allFrom_step {n i : Nat} {p : Nat → Bool} (h : i < n) : allFrom n i p = (p i && allFrom n (i + 1) p) := by
  unfold allFrom
  rw [show n - i = (n - (i + 1)) + 1 by omega, List.range'_succ, List.all_cons]
theorem allFrom_no {n i : Nat} {p : Nat → Bool} (h : i < n) (hp : p i = false) : allFrom n i p = false := by rw [allFrom_step h, hp, Bool.false_and]
theorem allFrom_yes {n i : Nat} {p : Nat → Bool} (h : i < n) (hp : p i = true) : allFrom n i p = allFrom n (i + 1) p := by rw [allFrom_step h, hp, Bool.true_and]
theorem allFrom_iff {n i : Nat} {p : Nat → Bool} : allFrom n i p = true ↔ ∀ j, i ≤ j → j < n → p j = true := by
  unfold allFrom
  rw [List.all_eq_true]
  constructor
  · intro h j h1 h2
    exact h j (by rw [List.mem_range'_1]; omega)
  · intro h j hj
    rw [List.mem_range'_1] at hj
    exact h j hj.1 (by omega)
theorem itd_pos {α : Type} {p : Prop} [Decidable p] (h : p) {a b : α} : (if decide p = true then a else b) = a := if_pos (decide_eq_true h)
theorem itd_neg {α : Type} {p : Prop} [Decidable p] (h : ¬ p) {a b : α} : (if decide p = true then a else b) = b := if_neg (by rw [decide_eq_false h]; decide)
/-- The places from i on, below n, that p holds of. -/
def filtFrom (n i : Nat) (p : Nat → Bool) : List Int := ((List.range' i (n - i)).filter p).map (fun j : Nat => (j : Int))
theorem filtFrom_end {n i : Nat} {p : Nat → Bool} (h : n ≤ i) : filtFrom n i p = [] := by
  unfold filtFrom
  rw [show n - i = 0 by omega]; rfl
theorem filtFrom_yes {n i : Nat} {p : Nat → Bool} (h : i < n) (hp : p i = true) : filtFrom n i p = (i : Int) :: filtFrom n (i + 1) p := by
  unfold filtFrom
  rw [show n - i = (n - (i + 1)) + 1 by omega, List.range'_succ, List.filter_cons, if_pos hp, List.map_cons]
theorem filtFrom_no {n i : Nat} {p : Nat → Bool} (h : i < n) (hp : p i = false) : filtFrom n i p = filtFrom n (i + 1) p := by
  unfold filtFrom
  rw [show n - i = (n - (i + 1)) + 1 by omega, List.range'_succ, List.filter_cons, if_neg (by rw [hp]; decide)]
theorem filtFrom_le {n i : Nat} {p : Nat → Bool} : (filtFrom n i p).length ≤ n - i := by
  unfold filtFrom
  rw [List.length_map]
  exact Nat.le_trans (List.length_filter_le _ _) (by simp)
theorem mem_filtFrom {n i : Nat} {p : Nat → Bool} {x : Int} : x ∈ filtFrom n i p ↔ ∃ j : Nat, i ≤ j ∧ j < n ∧ p j = true ∧ x = (j : Int) := by
  unfold filtFrom
  simp only [List.mem_map, List.mem_filter, List.mem_range'_1]
  constructor
  · rintro ⟨j, ⟨⟨h1, h2⟩, h3⟩, rfl⟩; exact ⟨j, h1, by omega, h3, rfl⟩
  · rintro ⟨j, h1, h2, h3, rfl⟩; exact ⟨j, ⟨⟨h1, by omega⟩, h3⟩, rfl⟩
theorem wrap_sc {i : Nat} (h : i < 9223372036854775807) : wrap64 ((i : Int) + 1) = ((i + 1 : Nat) : Int) := by unfold wrap64; omega
theorem rd_nat' {xs : List Int} {i : Nat} : rd xs (i : Int) = xs.getD i 0 := by unfold rd; rw [Int.toNat_natCast]
theorem getD_zero' {α : Type} {xs : List α} {d : α} : xs.getD (0 : Int).toNat d = xs.getD 0 d := rfl
theorem Bool.ite_tf (b : Bool) : (if b = true then true else false) = b := by cases b <;> rfl
theorem ev_ite {α : Type} {c : Prop} [Decidable c] {g h : Nat → Option α} {r s : α} (h1 : c → Ev g r) (h2 : ¬ c → Ev h s) : Ev (fun k => if c then g k else h k) (if c then r else s) := by
  by_cases hc : c
  · simp only [if_pos hc]; exact h1 hc
  · simp only [if_neg hc]; exact h2 hc
theorem Ev.ifp {α : Type} {c : Prop} [Decidable c] {g h : Nat → Option α} {r : α} (hc : c) (e : Ev g r) : Ev (fun k => if c then g k else h k) r := by simp only [if_pos hc]; exact e
theorem Ev.ifn {α : Type} {c : Prop} [Decidable c] {g h : Nat → Option α} {r : α} (hc : ¬ c) (e : Ev h r) : Ev (fun k => if c then g k else h k) r := by simp only [if_neg hc]; exact e
theorem ev_ite' {α : Type} {c : Prop} [Decidable c] {g h : Nat → Option α} {r : α} (h1 : c → Ev g r) (h2 : ¬ c → Ev h r) : Ev (fun k => if c then g k else h k) r := by
  by_cases hc : c
  · simp only [if_pos hc]; exact h1 hc
  · simp only [if_neg hc]; exact h2 hc

/-! #### RdSS -/
theorem rdSS_n {xs : List (List Int)} {i : Nat} : rd_L1 xs (i : Int) = xs.getD i [] := by unfold rd_L1; rw [Int.toNat_natCast]
theorem rdSS_z {xs : List (List Int)} : rd_L1 xs 0 = xs.getD 0 [] := by have := @rdSS_n xs 0; exact this

/-! #### Ints -/
theorem szIntS_f (l : List Int) (b : Int) (h : l.length ≤ 9223372036854775807) (h0 : 0 ≤ b) (h1 : b ≤ 1048576) : laws_szIntS.f l b = some (if (l.length : Int) ≤ b then b - (l.length : Int) else -1) := by
  unfold laws_szIntS.f
  rw [wrap_id (by omega) (by omega)]
  split <;> split <;> first | rfl | omega
theorem toIntS_l0 (xs : List Int) (hn : xs.length ≤ 1048576) : ∀ (d i : Nat) (ys zs : List Int), i + d = xs.length → ys.length = i → zs.length = d → ys = xs.take i → Ev (fun k => laws_toIntS.l0 k xs (ys ++ zs) i) xs
  | 0, i, ys, zs, h, hy, hz, e => Ev.unroll (by
      simp only [laws_toIntS.l0]
      simp only [if_neg (show ¬ (i : Int) < xs.length by omega)]
      obtain rfl := List.length_eq_zero_iff.1 hz
      rw [e, List.take_of_length_le (by omega), List.append_nil]
      exact Ev.now _)
  | d + 1, i, ys, zs, h, hy, hz, e => Ev.unroll (by
      have hi : i < xs.length := by omega
      simp only [laws_toIntS.l0]
      simp only [if_pos (show (i : Int) < xs.length by omega), if_pos (show (0 : Int) ≤ i by omega), if_pos (show (i : Int) < (ys ++ zs).length by simp; omega), wrap_succ hi (by unfold BIG; omega), rd_nat hi, Int.toNat_natCast]
      rw [fill_step ys zs _ hy.symm (by omega)]
      exact toIntS_l0 xs hn d (i + 1) _ _ (by omega) (by simp; omega) (by simp; omega) (by rw [List.take_succ_eq_append_getElem hi, ← e]))
theorem toIntS_f (l : List Int) (h : l.length ≤ 1048576) : Ev (fun k => laws_toIntS.f k l) l := by
  unfold laws_toIntS.f
  simp only [if_pos (show (0 : Int) ≤ l.length by omega), if_pos (show (l.length : Int).toNat ≤ 35184372088832 by omega)]
  rw [Int.toNat_natCast]
  exact toIntS_l0 l h l.length 0 [] _ (by omega) rfl (by simp) rfl

/-! #### EqInts -/
theorem eqIntS_l0 (xs : List Int) (hn : xs.length ≤ BIG) : ∀ (d i : Nat), i + d = xs.length → Ev (fun k => laws_eqIntS.l0 k xs xs i) true
  | 0, i, h => Ev.unroll (by
      simp only [laws_eqIntS.l0]
      simp only [if_neg (show ¬ (i : Int) < xs.length by omega)]
      exact Ev.now _)
  | d + 1, i, h => Ev.unroll (by
      have hi : i < xs.length := by omega
      simp only [laws_eqIntS.l0]
      simp only [if_pos (show (i : Int) < xs.length by omega), if_pos (show (0 : Int) ≤ i by omega), wrap_succ hi hn, if_true]
      exact eqIntS_l0 xs hn d (i + 1) (by omega))
theorem eqIntS_f (l : List Int) (h : l.length ≤ BIG) : Ev (fun k => laws_eqIntS.f k l l) true := by
  unfold laws_eqIntS.f
  simp only [if_true]
  exact eqIntS_l0 l h l.length 0 (by omega)

/-! #### IntsS -/
/-! Lists of lists of whole numbers. -/
theorem szIntSS_l0 (xs : List (List Int)) (hn : xs.length ≤ 1048576) (hx : ∀ x ∈ xs, x.length ≤ 9223372036854775807) : ∀ (d i : Nat) (b : Int), i + d = xs.length → 0 ≤ b → b ≤ 1048576 →
    ∃ r : Int, Ev (fun k => laws_szIntSS.l0 k xs b i) r ∧ (0 ≤ r → ∀ j : Nat, i ≤ j → j < xs.length → (xs.getD j []).length ≤ 1048576)
  | 0, i, b, h, h0, h1 => ⟨b, Ev.unroll (by
      simp (disch := omega) only [laws_szIntSS.l0, ↓if_pos, ↓if_neg, if_pos, if_neg, decide_eq_true_eq, ↓reduceIte, ↓wrap_sc, wrap_id, some_bind, Int.toNat_natCast, rd_nat', getD_zero', Bool.not_true, Bool.not_false, Bool.false_eq_true, decide_true, decide_false]
      exact Ev.now _), fun _ j h2 h3 => by omega⟩
  | d + 1, i, b, h, h0, h1 => by
      have hi : i < xs.length := by omega
      have hl := hx (xs.getD i []) (by rw [getD_at hi]; exact List.getElem_mem hi)
      have e := szIntS_f (xs.getD i []) b hl h0 h1
      by_cases hb : ((xs.getD i []).length : Int) ≤ b
      · obtain ⟨r, hr, hr2⟩ := szIntSS_l0 xs hn hx d (i + 1) (b - (xs.getD i []).length) (by omega) (by omega) (by omega)
        refine ⟨r, Ev.unroll ?_, fun h4 j h2 h3 => ?_⟩
        · rw [if_pos hb] at e
          simp (disch := omega) only [laws_szIntSS.l0, rdSS_n, rdSS_z, e, ↓if_pos, ↓if_neg, if_pos, if_neg, decide_eq_true_eq, ↓reduceIte, ↓wrap_sc, wrap_id, some_bind, Int.toNat_natCast, rd_nat', getD_zero', Bool.not_true, Bool.not_false, Bool.false_eq_true, decide_true, decide_false]
          exact hr
        · by_cases hj : j = i
          · subst hj; omega
          · exact hr2 h4 j (by omega) h3
      · refine ⟨-1, Ev.unroll ?_, fun h4 => by omega⟩
        rw [if_neg hb] at e
        simp (disch := omega) only [laws_szIntSS.l0, rdSS_n, rdSS_z, e, ↓if_pos, ↓if_neg, if_pos, if_neg, decide_eq_true_eq, ↓reduceIte, ↓wrap_sc, wrap_id, some_bind, Int.toNat_natCast, rd_nat', getD_zero', Bool.not_true, Bool.not_false, Bool.false_eq_true, decide_true, decide_false]
        exact Ev.now _
theorem szIntSS_f (xs : List (List Int)) (hn : xs.length ≤ 9223372036854775807) (hx : ∀ x ∈ xs, x.length ≤ 9223372036854775807) :
    ∃ r : Int, Ev (fun k => laws_szIntSS.f k xs 1048576) r ∧ (0 ≤ r → xs.length ≤ 1048576 ∧ ∀ x ∈ xs, x.length ≤ 1048576) := by
  unfold laws_szIntSS.f
  by_cases hb : xs.length ≤ 1048576
  · obtain ⟨r, hr, hr2⟩ := szIntSS_l0 xs hb hx xs.length 0 (1048576 - xs.length) (by omega) (by omega) (by omega)
    refine ⟨r, ?_, fun h4 => ⟨hb, fun x hx' => ?_⟩⟩
    · simp (disch := omega) only [↓if_pos, ↓if_neg, if_pos, if_neg, decide_eq_true_eq, ↓reduceIte, ↓wrap_sc, wrap_id, some_bind, Int.toNat_natCast, rd_nat', getD_zero', Bool.not_true, Bool.not_false, Bool.false_eq_true, decide_true, decide_false]
      exact hr
    · obtain ⟨j, hj, rfl⟩ := List.mem_iff_getElem.1 hx'
      have := hr2 h4 j (by omega) hj
      rwa [getD_at hj] at this
  · refine ⟨-1, ?_, fun h4 => by omega⟩
    simp (disch := omega) only [↓if_pos, ↓if_neg, if_pos, if_neg, decide_eq_true_eq, ↓reduceIte, ↓wrap_sc, wrap_id, some_bind, Int.toNat_natCast, rd_nat', getD_zero', Bool.not_true, Bool.not_false, Bool.false_eq_true, decide_true, decide_false]
    exact Ev.now _
theorem toIntSS_l0 (xs : List (List Int)) (hn : xs.length ≤ 1048576) (hx : ∀ x ∈ xs, x.length ≤ 1048576) : ∀ (d i : Nat) (ys zs : List (List Int)), i + d = xs.length → ys.length = i → zs.length = d → ys = xs.take i → Ev (fun k => laws_toIntSS.l0 k xs (ys ++ zs) i) xs
  | 0, i, ys, zs, h, hy, hz, e => Ev.unroll (by
      obtain rfl := List.length_eq_zero_iff.1 hz
      simp (disch := omega) only [laws_toIntSS.l0, ↓if_pos, ↓if_neg, if_pos, if_neg, decide_eq_true_eq, ↓reduceIte, ↓wrap_sc, wrap_id, some_bind, Int.toNat_natCast, rd_nat', getD_zero', Bool.not_true, Bool.not_false, Bool.false_eq_true, decide_true, decide_false]
      exact Ev.fin (by rw [e, List.take_of_length_le (by omega), List.append_nil]))
  | d + 1, i, ys, zs, h, hy, hz, e => Ev.unroll (by
      have hi : i < xs.length := by omega
      have hl : (ys ++ zs).length = xs.length := by simp; omega
      simp (disch := omega) only [laws_toIntSS.l0, hl, rdSS_n, rdSS_z, getD_at, ↓if_pos, ↓if_neg, if_pos, if_neg, decide_eq_true_eq, ↓reduceIte, ↓wrap_sc, wrap_id, some_bind, Int.toNat_natCast, rd_nat', getD_zero', Bool.not_true, Bool.not_false, Bool.false_eq_true, decide_true, decide_false]
      refine Ev.bind (toIntS_f _ (hx _ (List.getElem_mem hi))) ?_
      rw [fill_step ys zs _ hy.symm (by omega)]
      exact toIntSS_l0 xs hn hx d (i + 1) _ _ (by omega) (by simp; omega) (by simp; omega) (by rw [List.take_succ_eq_append_getElem hi, ← e]))
theorem toIntSS_f (l : List (List Int)) (h : l.length ≤ 1048576) (hx : ∀ x ∈ l, x.length ≤ 1048576) : Ev (fun k => laws_toIntSS.f k l) l := by
  unfold laws_toIntSS.f
  simp (disch := omega) only [↓if_pos, ↓if_neg, if_pos, if_neg, decide_eq_true_eq, ↓reduceIte, ↓wrap_sc, wrap_id, some_bind, Int.toNat_natCast, rd_nat', getD_zero', Bool.not_true, Bool.not_false, Bool.false_eq_true, decide_true, decide_false]
  exact toIntSS_l0 l h hx l.length 0 [] _ (by omega) rfl (by simp) rfl
theorem eqIntSS_l0 (xs : List (List Int)) (hn : xs.length ≤ 1048576) (hx : ∀ x ∈ xs, x.length ≤ 1048576) : ∀ (d i : Nat), i + d = xs.length → Ev (fun k => laws_eqIntSS.l0 k xs xs i) true
  | 0, i, h => Ev.unroll (by
      simp (disch := omega) only [laws_eqIntSS.l0, ↓if_pos, ↓if_neg, if_pos, if_neg, decide_eq_true_eq, ↓reduceIte, ↓wrap_sc, wrap_id, some_bind, Int.toNat_natCast, rd_nat', getD_zero', Bool.not_true, Bool.not_false, Bool.false_eq_true, decide_true, decide_false]
      exact Ev.now _)
  | d + 1, i, h => Ev.unroll (by
      have hi : i < xs.length := by omega
      simp (disch := omega) only [laws_eqIntSS.l0, rdSS_n, rdSS_z, getD_at, ↓if_pos, ↓if_neg, if_pos, if_neg, decide_eq_true_eq, ↓reduceIte, ↓wrap_sc, wrap_id, some_bind, Int.toNat_natCast, rd_nat', getD_zero', Bool.not_true, Bool.not_false, Bool.false_eq_true, decide_true, decide_false]
      refine Ev.bind (eqIntS_f _ (by have := hx _ (List.getElem_mem hi); unfold BIG; omega)) ?_
      simp (disch := omega) only [↓if_pos, ↓if_neg, if_pos, if_neg, decide_eq_true_eq, ↓reduceIte, ↓wrap_sc, wrap_id, some_bind, Int.toNat_natCast, rd_nat', getD_zero', Bool.not_true, Bool.not_false, Bool.false_eq_true, decide_true, decide_false]
      exact eqIntSS_l0 xs hn hx d (i + 1) (by omega))
theorem eqIntSS_f (l : List (List Int)) (h : l.length ≤ 1048576) (hx : ∀ x ∈ l, x.length ≤ 1048576) : Ev (fun k => laws_eqIntSS.f k l l) true := by
  unfold laws_eqIntSS.f
  simp (disch := omega) only [↓if_pos, ↓if_neg, if_pos, if_neg, decide_eq_true_eq, ↓reduceIte, ↓wrap_sc, wrap_id, some_bind, Int.toNat_natCast, rd_nat', getD_zero', Bool.not_true, Bool.not_false, Bool.false_eq_true, decide_true, decide_false]
  exact eqIntSS_l0 l h hx l.length 0 (by omega)

/-! #### In -/
/-- Between two bounds. -/
def inB (a b c : Int) : Bool := decide (b ≤ a ∧ a ≤ c)
theorem inB_iff {a b c : Int} : inB a b c = true ↔ b ≤ a ∧ a ≤ c := by unfold inB; exact decide_eq_true_iff
theorem inB_no {a b c : Int} : inB a b c = false ↔ ¬ (b ≤ a ∧ a ≤ c) := by rw [← inB_iff]; simp
theorem impl_in_f (a b c : Int) : impl_in.f a b c = some (inB a b c) := by
  unfold impl_in.f inB
  by_cases h : b ≤ a <;> by_cases h2 : a ≤ c <;> simp [h, h2]
theorem spec_l1In_f (a b c : Int) : spec_l1In.f a b c = some (inB a b c) := by
  unfold spec_l1In.f inB
  by_cases h : b ≤ a <;> by_cases h2 : a ≤ c <;> simp [h, h2]

/-! #### CostsOk -/
def rowOk (c : List (List Int)) (l : List Int) : Bool := decide (l.length = (c.getD 0 []).length ∧ c.length ≤ l.length ∧ l.length ≤ 10) && allFrom l.length 0 (fun j => inB (l.getD j 0) 0 100000)
def costsOk (c : List (List Int)) : Bool := decide (c.length ≤ 10) && allFrom c.length 0 (fun i => rowOk c (c.getD i []))
theorem spec_CostsOk_l1 (c : List (List Int)) (i : Nat) (R : Bool) (hc : c.length ≤ 10) (hi : i < c.length) (hl : (c.getD i []).length ≤ 10) (hR : Ev (fun k => spec_CostsOk.l0 k c ((i + 1 : Nat) : Int)) R) :
    ∀ (d j : Nat), j + d = (c.getD i []).length → Ev (fun k => spec_CostsOk.l1 k c i j) (allFrom (c.getD i []).length j (fun j => inB ((c.getD i []).getD j 0) 0 100000) && R)
  | 0, j, h => Ev.unroll (by
      simp (disch := omega) only [spec_CostsOk.l1, rdSS_n, rdSS_z, ↓if_pos, ↓if_neg, if_pos, if_neg, decide_eq_true_eq, ↓reduceIte, ↓wrap_sc, wrap_id, some_bind, Int.toNat_natCast, rd_nat', getD_zero', Bool.not_true, Bool.not_false, Bool.false_eq_true, decide_true, decide_false]
      rw [allFrom_end (by omega), Bool.true_and]
      exact hR)
  | d + 1, j, h => Ev.unroll (by
      simp (disch := omega) only [spec_CostsOk.l1, rdSS_n, rdSS_z, spec_l1In_f, ↓if_pos, ↓if_neg, if_pos, if_neg, decide_eq_true_eq, ↓reduceIte, ↓wrap_sc, wrap_id, some_bind, Int.toNat_natCast, rd_nat', getD_zero', Bool.not_true, Bool.not_false, Bool.false_eq_true, decide_true, decide_false]
      by_cases h1 : inB ((c.getD i []).getD j 0) 0 100000 = true
      · simp (disch := omega) only [h1, ↓if_pos, ↓if_neg, if_pos, if_neg, decide_eq_true_eq, ↓reduceIte, ↓wrap_sc, wrap_id, some_bind, Int.toNat_natCast, rd_nat', getD_zero', Bool.not_true, Bool.not_false, Bool.false_eq_true, decide_true, decide_false]
        rw [allFrom_yes (by omega) h1]
        exact spec_CostsOk_l1 c i R hc hi hl hR d (j + 1) (by omega)
      · rw [Bool.not_eq_true] at h1
        simp (disch := omega) only [h1, ↓if_pos, ↓if_neg, if_pos, if_neg, decide_eq_true_eq, ↓reduceIte, ↓wrap_sc, wrap_id, some_bind, Int.toNat_natCast, rd_nat', getD_zero', Bool.not_true, Bool.not_false, Bool.false_eq_true, decide_true, decide_false]
        exact Ev.fin (by rw [allFrom_no (by omega) h1, Bool.false_and]))
theorem spec_CostsOk_l0 (c : List (List Int)) (hc : c.length ≤ 10) : ∀ (d i : Nat), i + d = c.length → Ev (fun k => spec_CostsOk.l0 k c i) (allFrom c.length i (fun i => rowOk c (c.getD i [])))
  | 0, i, h => Ev.unroll (by
      simp (disch := omega) only [spec_CostsOk.l0, ↓if_pos, ↓if_neg, if_pos, if_neg, decide_eq_true_eq, ↓reduceIte, ↓wrap_sc, wrap_id, some_bind, Int.toNat_natCast, rd_nat', getD_zero', Bool.not_true, Bool.not_false, Bool.false_eq_true, decide_true, decide_false]
      exact Ev.fin (allFrom_end (by omega)).symm)
  | d + 1, i, h => Ev.unroll (by
      have ih := spec_CostsOk_l0 c hc d (i + 1) (by omega)
      simp (disch := omega) only [spec_CostsOk.l0, rdSS_n, rdSS_z, ↓if_pos, ↓if_neg, if_pos, if_neg, decide_eq_true_eq, ↓reduceIte, ↓wrap_sc, wrap_id, some_bind, Int.toNat_natCast, rd_nat', getD_zero', Bool.not_true, Bool.not_false, Bool.false_eq_true, decide_true, decide_false]
      rw [allFrom_step (by omega)]
      by_cases h1 : (c.getD i []).length ≤ 10
      · by_cases h2 : (c.getD i []).length = (c.getD 0 []).length
        · by_cases h3 : c.length ≤ (c.getD i []).length
          · simp (disch := omega) only [↓if_pos, ↓if_neg, if_pos, if_neg, decide_eq_true_eq, ↓reduceIte, ↓wrap_sc, wrap_id, some_bind, Int.toNat_natCast, rd_nat', getD_zero', Bool.not_true, Bool.not_false, Bool.false_eq_true, decide_true, decide_false]
            refine Ev.unroll ?_
            simp (disch := omega) only [spec_CostsOk.j1, ↓if_pos, ↓if_neg, if_pos, if_neg, decide_eq_true_eq, ↓reduceIte, ↓wrap_sc, wrap_id, some_bind, Int.toNat_natCast, rd_nat', getD_zero', Bool.not_true, Bool.not_false, Bool.false_eq_true, decide_true, decide_false]
            have := spec_CostsOk_l1 c i _ hc (by omega) h1 ih (c.getD i []).length 0 (by omega)
            rw [show rowOk c (c.getD i []) = allFrom (c.getD i []).length 0 (fun j => inB ((c.getD i []).getD j 0) 0 100000) by unfold rowOk; rw [decide_eq_true ⟨h2, h3, h1⟩, Bool.true_and]]
            exact this
          · simp (disch := omega) only [↓if_pos, ↓if_neg, if_pos, if_neg, decide_eq_true_eq, ↓reduceIte, ↓wrap_sc, wrap_id, some_bind, Int.toNat_natCast, rd_nat', getD_zero', Bool.not_true, Bool.not_false, Bool.false_eq_true, decide_true, decide_false]
            refine Ev.unroll ?_
            simp (disch := omega) only [spec_CostsOk.j1, ↓if_pos, ↓if_neg, if_pos, if_neg, decide_eq_true_eq, ↓reduceIte, ↓wrap_sc, wrap_id, some_bind, Int.toNat_natCast, rd_nat', getD_zero', Bool.not_true, Bool.not_false, Bool.false_eq_true, decide_true, decide_false]
            exact Ev.fin (by unfold rowOk; rw [decide_eq_false (by omega), Bool.false_and, Bool.false_and])
        · simp (disch := omega) only [↓if_pos, ↓if_neg, if_pos, if_neg, decide_eq_true_eq, ↓reduceIte, ↓wrap_sc, wrap_id, some_bind, Int.toNat_natCast, rd_nat', getD_zero', Bool.not_true, Bool.not_false, Bool.false_eq_true, decide_true, decide_false]
          refine Ev.unroll ?_
          simp (disch := omega) only [spec_CostsOk.j1, ↓if_pos, ↓if_neg, if_pos, if_neg, decide_eq_true_eq, ↓reduceIte, ↓wrap_sc, wrap_id, some_bind, Int.toNat_natCast, rd_nat', getD_zero', Bool.not_true, Bool.not_false, Bool.false_eq_true, decide_true, decide_false]
          exact Ev.fin (by unfold rowOk; rw [decide_eq_false (by omega), Bool.false_and, Bool.false_and])
      · simp (disch := omega) only [↓if_pos, ↓if_neg, if_pos, if_neg, decide_eq_true_eq, ↓reduceIte, ↓wrap_sc, wrap_id, some_bind, Int.toNat_natCast, rd_nat', getD_zero', Bool.not_true, Bool.not_false, Bool.false_eq_true, decide_true, decide_false]
        refine Ev.unroll ?_
        simp (disch := omega) only [spec_CostsOk.j1, ↓if_pos, ↓if_neg, if_pos, if_neg, decide_eq_true_eq, ↓reduceIte, ↓wrap_sc, wrap_id, some_bind, Int.toNat_natCast, rd_nat', getD_zero', Bool.not_true, Bool.not_false, Bool.false_eq_true, decide_true, decide_false]
        exact Ev.fin (by unfold rowOk; rw [decide_eq_false (by omega), Bool.false_and, Bool.false_and]))
theorem spec_CostsOk_f (c : List (List Int)) : Ev (fun k => spec_CostsOk.f k c) (costsOk c) := by
  unfold spec_CostsOk.f costsOk
  by_cases hc : c.length ≤ 10
  · simp (disch := omega) only [hc, Bool.true_and, ↓if_pos, ↓if_neg, if_pos, if_neg, decide_eq_true_eq, ↓reduceIte, ↓wrap_sc, wrap_id, some_bind, Int.toNat_natCast, rd_nat', getD_zero', Bool.not_true, Bool.not_false, Bool.false_eq_true, decide_true, decide_false]
    exact spec_CostsOk_l0 c hc c.length 0 (by omega)
  · simp (disch := omega) only [hc, Bool.false_and, ↓if_pos, ↓if_neg, if_pos, if_neg, decide_eq_true_eq, ↓reduceIte, ↓wrap_sc, wrap_id, some_bind, Int.toNat_natCast, rd_nat', getD_zero', Bool.not_true, Bool.not_false, Bool.false_eq_true, decide_true, decide_false]
    exact Ev.now _
theorem impl_CostsOk_l1 (c : List (List Int)) (i : Nat) (R : Bool) (hc : c.length ≤ 10) (l : List Int) (hl : l.length ≤ 10) (hi : i < c.length) (hR : Ev (fun k => impl_CostsOk.l0 k c c c.length ((i + 1 : Nat) : Int)) R) :
    ∀ (d j : Nat), j + d = l.length → Ev (fun k => impl_CostsOk.l1 k c c c.length i l l.length j) (allFrom l.length j (fun j => inB (l.getD j 0) 0 100000) && R)
  | 0, j, h => Ev.unroll (by
      simp (disch := omega) only [impl_CostsOk.l1, ↓if_pos, ↓if_neg, if_pos, if_neg, decide_eq_true_eq, ↓reduceIte, ↓wrap_sc, wrap_id, some_bind, Int.toNat_natCast, rd_nat', getD_zero', Bool.not_true, Bool.not_false, Bool.false_eq_true, decide_true, decide_false]
      rw [allFrom_end (by omega), Bool.true_and]
      exact hR)
  | d + 1, j, h => Ev.unroll (by
      simp (disch := omega) only [impl_CostsOk.l1, impl_in_f, ↓if_pos, ↓if_neg, if_pos, if_neg, decide_eq_true_eq, ↓reduceIte, ↓wrap_sc, wrap_id, some_bind, Int.toNat_natCast, rd_nat', getD_zero', Bool.not_true, Bool.not_false, Bool.false_eq_true, decide_true, decide_false]
      by_cases h1 : inB (l.getD j 0) 0 100000 = true
      · simp (disch := omega) only [h1, ↓if_pos, ↓if_neg, if_pos, if_neg, decide_eq_true_eq, ↓reduceIte, ↓wrap_sc, wrap_id, some_bind, Int.toNat_natCast, rd_nat', getD_zero', Bool.not_true, Bool.not_false, Bool.false_eq_true, decide_true, decide_false]
        rw [allFrom_yes (by omega) h1]
        exact impl_CostsOk_l1 c i R hc l hl hi hR d (j + 1) (by omega)
      · rw [Bool.not_eq_true] at h1
        simp (disch := omega) only [h1, ↓if_pos, ↓if_neg, if_pos, if_neg, decide_eq_true_eq, ↓reduceIte, ↓wrap_sc, wrap_id, some_bind, Int.toNat_natCast, rd_nat', getD_zero', Bool.not_true, Bool.not_false, Bool.false_eq_true, decide_true, decide_false]
        exact Ev.fin (by rw [allFrom_no (by omega) h1, Bool.false_and]))
theorem impl_CostsOk_l0 (c : List (List Int)) (hc : c.length ≤ 10) : ∀ (d i : Nat), i + d = c.length → Ev (fun k => impl_CostsOk.l0 k c c c.length i) (allFrom c.length i (fun i => rowOk c (c.getD i [])))
  | 0, i, h => Ev.unroll (by
      simp (disch := omega) only [impl_CostsOk.l0, ↓if_pos, ↓if_neg, if_pos, if_neg, decide_eq_true_eq, ↓reduceIte, ↓wrap_sc, wrap_id, some_bind, Int.toNat_natCast, rd_nat', getD_zero', Bool.not_true, Bool.not_false, Bool.false_eq_true, decide_true, decide_false]
      exact Ev.fin (allFrom_end (by omega)).symm)
  | d + 1, i, h => Ev.unroll (by
      have ih := impl_CostsOk_l0 c hc d (i + 1) (by omega)
      simp (disch := omega) only [impl_CostsOk.l0, rdSS_n, rdSS_z, impl_in_f, ↓if_pos, ↓if_neg, if_pos, if_neg, decide_eq_true_eq, ↓reduceIte, ↓wrap_sc, wrap_id, some_bind, Int.toNat_natCast, rd_nat', getD_zero', Bool.not_true, Bool.not_false, Bool.false_eq_true, decide_true, decide_false]
      rw [allFrom_step (by omega)]
      by_cases h2 : (c.getD i []).length = (c.getD 0 []).length
      · by_cases h3 : inB ((c.getD i []).length : Int) (c.length : Int) 10 = true
        · have h4 := inB_iff.1 h3
          simp (disch := omega) only [h3, ↓if_pos, ↓if_neg, if_pos, if_neg, decide_eq_true_eq, ↓reduceIte, ↓wrap_sc, wrap_id, some_bind, Int.toNat_natCast, rd_nat', getD_zero', Bool.not_true, Bool.not_false, Bool.false_eq_true, decide_true, decide_false]
          refine Ev.unroll ?_
          simp (disch := omega) only [impl_CostsOk.j1, ↓if_pos, ↓if_neg, if_pos, if_neg, decide_eq_true_eq, ↓reduceIte, ↓wrap_sc, wrap_id, some_bind, Int.toNat_natCast, rd_nat', getD_zero', Bool.not_true, Bool.not_false, Bool.false_eq_true, decide_true, decide_false]
          have := impl_CostsOk_l1 c i _ hc (c.getD i []) (by omega) (by omega) ih (c.getD i []).length 0 (by omega)
          rw [show rowOk c (c.getD i []) = allFrom (c.getD i []).length 0 (fun j => inB ((c.getD i []).getD j 0) 0 100000) by unfold rowOk; rw [decide_eq_true ⟨h2, by omega, by omega⟩, Bool.true_and]]
          exact this
        · rw [Bool.not_eq_true] at h3
          have h4 := inB_no.1 h3
          simp (disch := omega) only [h3, ↓if_pos, ↓if_neg, if_pos, if_neg, decide_eq_true_eq, ↓reduceIte, ↓wrap_sc, wrap_id, some_bind, Int.toNat_natCast, rd_nat', getD_zero', Bool.not_true, Bool.not_false, Bool.false_eq_true, decide_true, decide_false]
          refine Ev.unroll ?_
          simp (disch := omega) only [impl_CostsOk.j1, ↓if_pos, ↓if_neg, if_pos, if_neg, decide_eq_true_eq, ↓reduceIte, ↓wrap_sc, wrap_id, some_bind, Int.toNat_natCast, rd_nat', getD_zero', Bool.not_true, Bool.not_false, Bool.false_eq_true, decide_true, decide_false]
          exact Ev.fin (by unfold rowOk; rw [decide_eq_false (by omega), Bool.false_and, Bool.false_and])
      · simp (disch := omega) only [↓if_pos, ↓if_neg, if_pos, if_neg, decide_eq_true_eq, ↓reduceIte, ↓wrap_sc, wrap_id, some_bind, Int.toNat_natCast, rd_nat', getD_zero', Bool.not_true, Bool.not_false, Bool.false_eq_true, decide_true, decide_false]
        refine Ev.unroll ?_
        simp (disch := omega) only [impl_CostsOk.j1, ↓if_pos, ↓if_neg, if_pos, if_neg, decide_eq_true_eq, ↓reduceIte, ↓wrap_sc, wrap_id, some_bind, Int.toNat_natCast, rd_nat', getD_zero', Bool.not_true, Bool.not_false, Bool.false_eq_true, decide_true, decide_false]
        exact Ev.fin (by unfold rowOk; rw [decide_eq_false (by omega), Bool.false_and, Bool.false_and]))
theorem impl_CostsOk_f (c : List (List Int)) : Ev (fun k => impl_CostsOk.f k c) (costsOk c) := by
  unfold impl_CostsOk.f costsOk
  by_cases hc : c.length ≤ 10
  · simp (disch := omega) only [hc, Bool.true_and, ↓if_pos, ↓if_neg, if_pos, if_neg, decide_eq_true_eq, ↓reduceIte, ↓wrap_sc, wrap_id, some_bind, Int.toNat_natCast, rd_nat', getD_zero', Bool.not_true, Bool.not_false, Bool.false_eq_true, decide_true, decide_false]
    exact impl_CostsOk_l0 c hc c.length 0 (by omega)
  · simp (disch := omega) only [hc, Bool.false_and, ↓if_pos, ↓if_neg, if_pos, if_neg, decide_eq_true_eq, ↓reduceIte, ↓wrap_sc, wrap_id, some_bind, Int.toNat_natCast, rd_nat', getD_zero', Bool.not_true, Bool.not_false, Bool.false_eq_true, decide_true, decide_false]
    exact Ev.now _

/-! #### Bits -/
/-! Sets of small numbers as bits. -/
theorem bits_and_nat (a b : Nat) (ha : a < 2 ^ 62) (hb : b < 2 ^ 62) : Go.bits .and .i64 (a : Int) (b : Int) = ((a &&& b : Nat) : Int) := by
  have h := Nat.and_lt_two_pow (n := 62) a hb
  unfold Go.bits
  show IntKind.i64.wrap ((BitVec.ofInt 64 (a : Int) &&& BitVec.ofInt 64 (b : Int)).toNat : Int) = _
  simp only [BitVec.ofInt_natCast, BitVec.toNat_and, BitVec.toNat_ofNat]
  rw [Nat.mod_eq_of_lt (show a < 2 ^ 64 by omega), Nat.mod_eq_of_lt (show b < 2 ^ 64 by omega), i64_w, wrap_id (by omega) (by omega)]
theorem bits_or_nat (a b : Nat) (ha : a < 2 ^ 62) (hb : b < 2 ^ 62) : Go.bits .or .i64 (a : Int) (b : Int) = ((a ||| b : Nat) : Int) := by
  have h := Nat.or_lt_two_pow (n := 62) ha hb
  unfold Go.bits
  show IntKind.i64.wrap ((BitVec.ofInt 64 (a : Int) ||| BitVec.ofInt 64 (b : Int)).toNat : Int) = _
  simp only [BitVec.ofInt_natCast, BitVec.toNat_or, BitVec.toNat_ofNat]
  rw [Nat.mod_eq_of_lt (show a < 2 ^ 64 by omega), Nat.mod_eq_of_lt (show b < 2 ^ 64 by omega), i64_w, wrap_id (by omega) (by omega)]
theorem shl_one (k : Nat) (hk : k ≤ 20) : shl .i64 1 (k : Int) = ((2 ^ k : Nat) : Int) := by
  have h : 2 ^ k ≤ 2 ^ 20 := Nat.pow_le_pow_right (by omega) hk
  unfold shl
  simp only [IntKind.bits, Int.toNat_natCast]
  rw [show min k 64 = k by omega, Int.one_mul, i64_w, show (2 : Int) ^ k = ((2 ^ k : Nat) : Int) by simp]
  generalize 2 ^ k = m at *
  exact wrap_id (by omega) (by omega)
theorem shr_nat (s k : Nat) (hk : k ≤ 20) : shr .i64 (s : Int) (k : Int) = ((s / 2 ^ k : Nat) : Int) := by
  unfold shr
  simp only [IntKind.bits, Int.toNat_natCast]
  rw [show min k 64 = k by omega]
  simp
/-- Whether a number is in the set. -/
theorem bit_in (s k : Nat) (hs : s < 2 ^ 20) (hk : k ≤ 20) : (Go.bits .and .i64 (shr .i64 (s : Int) (k : Int)) 1 = 1) ↔ s.testBit k = true := by
  rw [shr_nat s k hk, show (1 : Int) = ((1 : Nat) : Int) from rfl, bits_and_nat _ _ (Nat.lt_of_le_of_lt (Nat.div_le_self _ _) (by omega)) (by decide), Nat.and_one_is_mod, Nat.testBit_eq_decide_div_mod_eq]
  rw [decide_eq_true_eq]
  omega
/-- The set with one more. -/
theorem bit_put (s k : Nat) (hs : s < 2 ^ 20) (hk : k < 20) : Go.bits .or .i64 (s : Int) (shl .i64 1 (k : Int)) = ((s ||| 2 ^ k : Nat) : Int) ∧ s ||| 2 ^ k < 2 ^ 20 := by
  have h : 2 ^ k < 2 ^ 20 := Nat.pow_lt_pow_right (by omega) hk
  refine ⟨?_, Nat.or_lt_two_pow hs h⟩
  rw [shl_one k (by omega), bits_or_nat _ _ (by omega) (by omega)]
theorem bit_put_mem (s k j : Nat) : (s ||| 2 ^ k).testBit j = (s.testBit j || decide (k = j)) := by
  rw [Nat.testBit_or, Nat.testBit_two_pow]

/-! #### SumOf -/
structure CostFacts (c : List (List Int)) : Prop where
  n : c.length ≤ 10
  row : ∀ i : Nat, i < c.length → (c.getD i []).length = (c.getD 0 []).length ∧ c.length ≤ (c.getD i []).length ∧ (c.getD i []).length ≤ 10
  cost : ∀ i j : Nat, i < c.length → j < (c.getD i []).length → 0 ≤ (c.getD i []).getD j 0 ∧ (c.getD i []).getD j 0 ≤ 100000
theorem costsOk_facts {c : List (List Int)} (h : costsOk c = true) : CostFacts c := by
  unfold costsOk at h
  simp only [Bool.and_eq_true, decide_eq_true_eq, allFrom_iff] at h
  have hr : ∀ i, i < c.length → rowOk c (c.getD i []) = true := fun i hi => h.2 i (by omega) hi
  refine ⟨h.1, fun i hi => ?_, fun i j hi hj => ?_⟩
  · have := hr i hi
    unfold rowOk at this
    simp only [Bool.and_eq_true, decide_eq_true_eq] at this
    exact this.1
  · have := hr i hi
    unfold rowOk at this
    simp only [Bool.and_eq_true, decide_eq_true_eq, allFrom_iff] at this
    exact inB_iff.1 (this.2 j (by omega) hj)
def sumFrom (c : List (List Int)) (cols : List Int) : Nat → Nat → Int → Int
  | 0, _, acc => acc
  | d + 1, i, acc => if inB (cols.getD i 0) 0 (((c.getD i []).length : Int) - 1) = true then (if (cols.take i).contains (cols.getD i 0) = true then -1 else sumFrom c cols d (i + 1) (acc + rd (c.getD i []) (cols.getD i 0))) else -1
def sumOf (c : List (List Int)) (cols : List Int) : Int := if costsOk c = true then (if cols.length = c.length then sumFrom c cols c.length 0 0 else -1) else -1
theorem cost_at {c : List (List Int)} (f : CostFacts c) {i : Nat} (hi : i < c.length) {x : Int} (hx : inB x 0 (((c.getD i []).length : Int) - 1) = true) : 0 ≤ x ∧ x < ((c.getD i []).length : Int) ∧ (c.getD i []).length ≤ 10 ∧ 0 ≤ rd (c.getD i []) x ∧ rd (c.getD i []) x ≤ 100000 := by
  have h1 := inB_iff.1 hx
  have h2 := f.cost i x.toNat hi (by omega)
  exact ⟨h1.1, by omega, (f.row i hi).2.2, h2.1, h2.2⟩
theorem spec_SumOf_l1 (c : List (List Int)) (cols : List Int) (f : CostFacts c) (hl : cols.length = c.length) (acc R : Int) (i : Nat) (hi : i < c.length) (hx : inB (cols.getD i 0) 0 (((c.getD i []).length : Int) - 1) = true)
    (hR : Ev (fun k => spec_SumOf.l0 k c cols (wrap64 (acc + rd (c.getD i []) (cols.getD i 0))) ((i + 1 : Nat) : Int)) R) : ∀ (d j : Nat), j + d = i → Ev (fun k => spec_SumOf.l1 k c cols acc i j) (if ((cols.take i).drop j).contains (cols.getD i 0) = true then -1 else R)
  | 0, j, h => Ev.unroll (by
      have h1 := cost_at f hi hx
      have h2 := f.n
      have e := rd_nat (xs := cols) (i := i) (by omega)
      simp (disch := omega) only [spec_SumOf.l1, rdSS_n, ↓if_pos, ↓if_neg, if_pos, if_neg, decide_eq_true_eq, ↓reduceIte, ↓wrap_sc, wrap_id, some_bind, Int.toNat_natCast, rd_nat', getD_zero', Bool.not_true, Bool.not_false, Bool.false_eq_true, decide_true, decide_false]
      rw [drop_end (by simp; omega), List.contains_nil]
      simp (disch := omega) only [↓if_pos, ↓if_neg, if_pos, if_neg, decide_eq_true_eq, ↓reduceIte, ↓wrap_sc, wrap_id, some_bind, Int.toNat_natCast, rd_nat', getD_zero', Bool.not_true, Bool.not_false, Bool.false_eq_true, decide_true, decide_false]
      exact hR)
  | d + 1, j, h => Ev.unroll (by
      have h2 := f.n
      have hj : j < (cols.take i).length := by simp; omega
      simp (disch := omega) only [spec_SumOf.l1, ↓if_pos, ↓if_neg, if_pos, if_neg, decide_eq_true_eq, ↓reduceIte, ↓wrap_sc, wrap_id, some_bind, Int.toNat_natCast, rd_nat', getD_zero', Bool.not_true, Bool.not_false, Bool.false_eq_true, decide_true, decide_false]
      rw [drop_cons hj, List.contains_cons]
      have e : (cols.take i)[j] = cols.getD j 0 := by rw [getD_at (by omega)]; simp
      rw [e]
      have ih := spec_SumOf_l1 c cols f hl acc R i hi hx hR d (j + 1) (by omega)
      by_cases hc : cols.getD j 0 = cols.getD i 0
      · rw [hc]
        simp (disch := omega) only [beq_self_eq_true, Bool.true_or, ↓if_pos, ↓if_neg, if_pos, if_neg, decide_eq_true_eq, ↓reduceIte, ↓wrap_sc, wrap_id, some_bind, Int.toNat_natCast, rd_nat', getD_zero', Bool.not_true, Bool.not_false, Bool.false_eq_true, decide_true, decide_false]
        exact Ev.now _
      · simp (disch := omega) only [hc, ↓if_pos, ↓if_neg, if_pos, if_neg, decide_eq_true_eq, ↓reduceIte, ↓wrap_sc, wrap_id, some_bind, Int.toNat_natCast, rd_nat', getD_zero', Bool.not_true, Bool.not_false, Bool.false_eq_true, decide_true, decide_false]
        rw [show (cols.getD i 0 == cols.getD j 0) = false by simpa using fun e => hc e.symm, Bool.false_or]
        exact ih)
theorem spec_SumOf_l0 (c : List (List Int)) (cols : List Int) (f : CostFacts c) (hl : cols.length = c.length) : ∀ (d i : Nat) (acc : Int), i + d = c.length → 0 ≤ acc → acc ≤ 100000 * (i : Int) → Ev (fun k => spec_SumOf.l0 k c cols acc i) (sumFrom c cols d i acc)
  | 0, i, acc, h, h0, h1 => Ev.unroll (by
      simp (disch := omega) only [spec_SumOf.l0, ↓if_pos, ↓if_neg, if_pos, if_neg, decide_eq_true_eq, ↓reduceIte, ↓wrap_sc, wrap_id, some_bind, Int.toNat_natCast, rd_nat', getD_zero', Bool.not_true, Bool.not_false, Bool.false_eq_true, decide_true, decide_false]
      exact Ev.now _)
  | d + 1, i, acc, h, h0, h1 => Ev.unroll (by
      have h2 := f.n
      have hi : i < c.length := by omega
      have h3 := (f.row i hi).2.2
      simp (disch := omega) only [spec_SumOf.l0, rdSS_n, spec_l1In_f, ↓if_pos, ↓if_neg, if_pos, if_neg, decide_eq_true_eq, ↓reduceIte, ↓wrap_sc, wrap_id, some_bind, Int.toNat_natCast, rd_nat', getD_zero', Bool.not_true, Bool.not_false, Bool.false_eq_true, decide_true, decide_false]
      unfold sumFrom
      by_cases hx : inB (cols.getD i 0) 0 (((c.getD i []).length : Int) - 1) = true
      · have h4 := cost_at f hi hx
        simp (disch := omega) only [hx, ↓if_pos, ↓if_neg, if_pos, if_neg, decide_eq_true_eq, ↓reduceIte, ↓wrap_sc, wrap_id, some_bind, Int.toNat_natCast, rd_nat', getD_zero', Bool.not_true, Bool.not_false, Bool.false_eq_true, decide_true, decide_false]
        have ih := spec_SumOf_l0 c cols f hl d (i + 1) (acc + rd (c.getD i []) (cols.getD i 0)) (by omega) (by omega) (by omega)
        rw [← wrap_id (x := acc + rd (c.getD i []) (cols.getD i 0)) (by omega) (by omega)] at ih
        have := spec_SumOf_l1 c cols f hl acc _ i hi hx ih i 0 (by omega)
        rw [List.drop_zero, wrap_id (x := acc + rd (c.getD i []) (cols.getD i 0)) (by omega) (by omega)] at this
        exact this
      · rw [Bool.not_eq_true] at hx
        simp (disch := omega) only [hx, ↓if_pos, ↓if_neg, if_pos, if_neg, decide_eq_true_eq, ↓reduceIte, ↓wrap_sc, wrap_id, some_bind, Int.toNat_natCast, rd_nat', getD_zero', Bool.not_true, Bool.not_false, Bool.false_eq_true, decide_true, decide_false]
        exact Ev.now _)
theorem spec_SumOf_f (c : List (List Int)) (cols : List Int) (hn : cols.length ≤ BIG) : Ev (fun k => spec_SumOf.f k c cols) (sumOf c cols) := by
  unfold spec_SumOf.f sumOf
  refine Ev.bind (spec_CostsOk_f c) ?_
  by_cases h : costsOk c = true
  · have f := costsOk_facts h
    simp (disch := omega) only [h, ↓if_pos, ↓if_neg, if_pos, if_neg, decide_eq_true_eq, ↓reduceIte, ↓wrap_sc, wrap_id, some_bind, Int.toNat_natCast, rd_nat', getD_zero', Bool.not_true, Bool.not_false, Bool.false_eq_true, decide_true, decide_false]
    refine Ev.unroll ?_
    by_cases hl : cols.length = c.length
    · simp (disch := omega) only [spec_SumOf.j0, hl, bne_self_eq_false, ↓if_pos, ↓if_neg, if_pos, if_neg, decide_eq_true_eq, ↓reduceIte, ↓wrap_sc, wrap_id, some_bind, Int.toNat_natCast, rd_nat', getD_zero', Bool.not_true, Bool.not_false, Bool.false_eq_true, decide_true, decide_false]
      exact spec_SumOf_l0 c cols f hl c.length 0 0 (by omega) (by omega) (by omega)
    · simp (disch := omega) only [spec_SumOf.j0, show ((cols.length : Int) != (c.length : Int)) = true by simp; omega, ↓if_pos, ↓if_neg, if_pos, if_neg, decide_eq_true_eq, ↓reduceIte, ↓wrap_sc, wrap_id, some_bind, Int.toNat_natCast, rd_nat', getD_zero', Bool.not_true, Bool.not_false, Bool.false_eq_true, decide_true, decide_false]
      exact Ev.now _
  · simp (disch := omega) only [h, ↓if_pos, ↓if_neg, if_pos, if_neg, decide_eq_true_eq, ↓reduceIte, ↓wrap_sc, wrap_id, some_bind, Int.toNat_natCast, rd_nat', getD_zero', Bool.not_true, Bool.not_false, Bool.false_eq_true, decide_true, decide_false]
    refine Ev.unroll ?_
    simp (disch := omega) only [spec_SumOf.j0, ↓if_pos, ↓if_neg, if_pos, if_neg, decide_eq_true_eq, ↓reduceIte, ↓wrap_sc, wrap_id, some_bind, Int.toNat_natCast, rd_nat', getD_zero', Bool.not_true, Bool.not_false, Bool.false_eq_true, decide_true, decide_false]
    exact Ev.now _
theorem impl_SumOf_l0 (c : List (List Int)) (cols : List Int) (f : CostFacts c) (hl : cols.length = c.length) : ∀ (d i : Nat) (acc : Int) (s : Nat), i + d = c.length → 0 ≤ acc → acc ≤ 100000 * (i : Int) → s < 2 ^ 20 → (∀ j : Nat, s.testBit j = true ↔ (j : Int) ∈ cols.take i) →
    Ev (fun k => impl_SumOf.l0 k c acc s cols cols.length i) (sumFrom c cols d i acc)
  | 0, i, acc, s, h, h0, h1, hs, hm => Ev.unroll (by
      simp (disch := omega) only [impl_SumOf.l0, ↓if_pos, ↓if_neg, if_pos, if_neg, decide_eq_true_eq, ↓reduceIte, ↓wrap_sc, wrap_id, some_bind, Int.toNat_natCast, rd_nat', getD_zero', Bool.not_true, Bool.not_false, Bool.false_eq_true, decide_true, decide_false]
      exact Ev.now _)
  | d + 1, i, acc, s, h, h0, h1, hs, hm => Ev.unroll (by
      have h2 := f.n
      have hi : i < c.length := by omega
      have h3 := (f.row i hi).2.2
      simp (disch := omega) only [impl_SumOf.l0, rdSS_n, impl_in_f, ↓if_pos, ↓if_neg, if_pos, if_neg, decide_eq_true_eq, ↓reduceIte, ↓wrap_sc, wrap_id, some_bind, Int.toNat_natCast, rd_nat', getD_zero', Bool.not_true, Bool.not_false, Bool.false_eq_true, decide_true, decide_false]
      unfold sumFrom
      by_cases hx : inB (cols.getD i 0) 0 (((c.getD i []).length : Int) - 1) = true
      · have h4 := cost_at f hi hx
        obtain ⟨x, hxx⟩ : ∃ x : Nat, cols.getD i 0 = (x : Int) := ⟨(cols.getD i 0).toNat, by omega⟩
        rw [hxx] at h4 hx ⊢
        have hb := bit_in s x hs (by omega)
        have hc : (cols.take i).contains (x : Int) = s.testBit x := by rw [Bool.eq_iff_iff, hm, List.contains_iff_mem]
        rw [rd_nat'] at h4
        simp (disch := omega) only [hx, ↓if_pos, ↓if_neg, if_pos, if_neg, decide_eq_true_eq, ↓reduceIte, ↓wrap_sc, wrap_id, some_bind, Int.toNat_natCast, rd_nat', getD_zero', Bool.not_true, Bool.not_false, Bool.false_eq_true, decide_true, decide_false]
        rw [hc]
        by_cases ht : s.testBit x = true
        · simp (disch := omega) only [hb.2 ht, ht, ↓if_pos, ↓if_neg, if_pos, if_neg, decide_eq_true_eq, ↓reduceIte, ↓wrap_sc, wrap_id, some_bind, Int.toNat_natCast, rd_nat', getD_zero', Bool.not_true, Bool.not_false, Bool.false_eq_true, decide_true, decide_false]
          exact Ev.now _
        · have hp := bit_put s x hs (by omega)
          rw [hp.1]
          simp (disch := omega) only [ht, mt hb.1 ht, ↓if_pos, ↓if_neg, if_pos, if_neg, decide_eq_true_eq, ↓reduceIte, ↓wrap_sc, wrap_id, some_bind, Int.toNat_natCast, rd_nat', getD_zero', Bool.not_true, Bool.not_false, Bool.false_eq_true, decide_true, decide_false]
          refine impl_SumOf_l0 c cols f hl d (i + 1) _ _ (by omega) (by omega) (by omega) hp.2 fun j => ?_
          rw [bit_put_mem, Bool.or_eq_true, hm, decide_eq_true_eq, List.take_succ_eq_append_getElem (by omega), List.mem_append, List.mem_singleton]
          rw [getD_at (by omega)] at hxx
          rw [hxx]
          exact or_congr Iff.rfl ⟨fun h9 => by omega, fun h9 => by omega⟩
      · rw [Bool.not_eq_true] at hx
        simp (disch := omega) only [hx, ↓if_pos, ↓if_neg, if_pos, if_neg, decide_eq_true_eq, ↓reduceIte, ↓wrap_sc, wrap_id, some_bind, Int.toNat_natCast, rd_nat', getD_zero', Bool.not_true, Bool.not_false, Bool.false_eq_true, decide_true, decide_false]
        exact Ev.now _)
theorem impl_SumOf_f (c : List (List Int)) (cols : List Int) (hn : cols.length ≤ BIG) : Ev (fun k => impl_SumOf.f k c cols) (sumOf c cols) := by
  unfold impl_SumOf.f sumOf
  refine Ev.bind (impl_CostsOk_f c) ?_
  by_cases h : costsOk c = true
  · have f := costsOk_facts h
    simp (disch := omega) only [h, ↓if_pos, ↓if_neg, if_pos, if_neg, decide_eq_true_eq, ↓reduceIte, ↓wrap_sc, wrap_id, some_bind, Int.toNat_natCast, rd_nat', getD_zero', Bool.not_true, Bool.not_false, Bool.false_eq_true, decide_true, decide_false]
    refine Ev.unroll ?_
    by_cases hl : cols.length = c.length
    · simp (disch := omega) only [impl_SumOf.j0, hl, bne_self_eq_false, ↓if_pos, ↓if_neg, if_pos, if_neg, decide_eq_true_eq, ↓reduceIte, ↓wrap_sc, wrap_id, some_bind, Int.toNat_natCast, rd_nat', getD_zero', Bool.not_true, Bool.not_false, Bool.false_eq_true, decide_true, decide_false]
      have := impl_SumOf_l0 c cols f hl c.length 0 0 0 (by omega) (by omega) (by omega) (by decide) (fun j => by simp)
      rw [hl] at this
      exact this
    · simp (disch := omega) only [impl_SumOf.j0, show ((cols.length : Int) != (c.length : Int)) = true by simp; omega, ↓if_pos, ↓if_neg, if_pos, if_neg, decide_eq_true_eq, ↓reduceIte, ↓wrap_sc, wrap_id, some_bind, Int.toNat_natCast, rd_nat', getD_zero', Bool.not_true, Bool.not_false, Bool.false_eq_true, decide_true, decide_false]
      exact Ev.now _
  · simp (disch := omega) only [h, ↓if_pos, ↓if_neg, if_pos, if_neg, decide_eq_true_eq, ↓reduceIte, ↓wrap_sc, wrap_id, some_bind, Int.toNat_natCast, rd_nat', getD_zero', Bool.not_true, Bool.not_false, Bool.false_eq_true, decide_true, decide_false]
    refine Ev.unroll ?_
    simp (disch := omega) only [impl_SumOf.j0, ↓if_pos, ↓if_neg, if_pos, if_neg, decide_eq_true_eq, ↓reduceIte, ↓wrap_sc, wrap_id, some_bind, Int.toNat_natCast, rd_nat', getD_zero', Bool.not_true, Bool.not_false, Bool.false_eq_true, decide_true, decide_false]
    exact Ev.now _

/-! #### HasInt -/
theorem impl_hasInt_l0 (xs : List Int) (x : Int) (hn : xs.length ≤ BIG) : ∀ (d i : Nat), i + d = xs.length → Ev (fun k => impl_hasInt.l0 k x xs xs.length i) ((xs.drop i).contains x)
  | 0, i, h => Ev.unroll (by
      simp only [impl_hasInt.l0]
      simp only [if_neg (show ¬ (i : Int) < xs.length by omega)]
      exact Ev.fin (by rw [drop_end (by omega)]; rfl))
  | d + 1, i, h => Ev.unroll (by
      have hi : i < xs.length := by omega
      simp only [impl_hasInt.l0]
      simp only [if_pos (show (i : Int) < xs.length by omega), if_pos (show (0 : Int) ≤ i by omega), wrap_succ hi hn, rd_nat hi]
      rw [drop_cons hi, List.contains_cons]
      by_cases h1 : xs[i] = x
      · simp only [if_pos h1]
        exact Ev.fin (by rw [h1]; simp)
      · simp only [if_neg h1]
        rw [show (x == xs[i]) = false by simpa using fun e => h1 e.symm, Bool.false_or]
        exact impl_hasInt_l0 xs x hn d (i + 1) (by omega))
theorem impl_hasInt_f (xs : List Int) (x : Int) (hn : xs.length ≤ BIG) : Ev (fun k => impl_hasInt.f k xs x) (xs.contains x) := impl_hasInt_l0 xs x hn xs.length 0 (by omega)

/-! #### Proves -/
/-! Rows and prices that prove. -/
def pricesOk (l : List Int) : Bool := allFrom l.length 0 (fun j => inB (l.getD j 0) (-1000000) 1000000)
def pairFine (c : List (List Int)) (cols rows prices : List Int) (i j : Nat) : Bool := decide (rows.getD i 0 + prices.getD j 0 ≤ (c.getD i []).getD j 0) && (!decide (cols.getD i 0 = (j : Int)) || decide (rows.getD i 0 + prices.getD j 0 = (c.getD i []).getD j 0))
def priceFine (cols prices : List Int) (j : Nat) : Bool := decide (prices.getD j 0 ≤ 0) && (cols.contains (j : Int) || decide (prices.getD j 0 = 0))
def rowsFine (c : List (List Int)) (cols rows prices : List Int) (i : Nat) : Bool := allFrom c.length i (fun i => allFrom prices.length 0 (pairFine c cols rows prices i))
def provesOf (c : List (List Int)) (cols rows prices : List Int) : Bool :=
  decide (0 ≤ sumOf c cols) && (decide (rows.length = c.length) && (decide (prices.length = (c.getD 0 []).length) && (pricesOk rows && (pricesOk prices && (rowsFine c cols rows prices 0 && allFrom prices.length 0 (priceFine cols prices))))))
theorem sumOf_ok {c : List (List Int)} {cols : List Int} (h : 0 ≤ sumOf c cols) : CostFacts c ∧ cols.length = c.length := by
  unfold sumOf at h
  by_cases h1 : costsOk c = true
  · rw [if_pos h1] at h
    by_cases h2 : cols.length = c.length
    · exact ⟨costsOk_facts h1, h2⟩
    · rw [if_neg h2] at h; omega
  · rw [if_neg h1] at h; omega
theorem prices_in {l : List Int} (h : pricesOk l = true) (j : Nat) : -1000000 ≤ l.getD j 0 ∧ l.getD j 0 ≤ 1000000 := by
  unfold pricesOk at h
  rw [allFrom_iff] at h
  by_cases hj : j < l.length
  · exact inB_iff.1 (h j (by omega) hj)
  · simp [List.getD, hj]
theorem spec_l4Small_f (l : List Int) (hn : l.length ≤ 1048576) : Ev (fun k => spec_l4Small.f k l) (pricesOk l) := by
  have key : ∀ (d i : Nat), i + d = l.length → Ev (fun k => spec_l4Small.l0 k l i) (allFrom l.length i (fun j => inB (l.getD j 0) (-1000000) 1000000)) := by
    intro d
    induction d with
    | zero =>
      intro i e
      refine Ev.unroll ?_
      simp only [spec_l4Small.l0]
      exact Ev.ifn (by omega) (Ev.fin (allFrom_end (by omega)).symm)
    | succ d ih =>
      intro i e
      refine Ev.unroll ?_
      simp only [spec_l4Small.l0, spec_l1In_f, some_bind, rd_nat', wrap_sc (show i < 9223372036854775807 by omega)]
      refine Ev.ifp (by omega) (Ev.ifp (by omega) (ev_ite' (fun h => ?_) (fun h => Ev.fin ?_)))
      · rw [allFrom_yes (by omega) h]; exact ih (i + 1) (by omega)
      · rw [allFrom_no (by omega) (by simpa using h)]
  exact key l.length 0 (by omega)
theorem impl_pricesOk_f (l : List Int) (hn : l.length ≤ 1048576) : Ev (fun k => impl_pricesOk.f k l) (pricesOk l) := by
  have key : ∀ (d i : Nat), i + d = l.length → Ev (fun k => impl_pricesOk.l0 k l l.length i) (allFrom l.length i (fun j => inB (l.getD j 0) (-1000000) 1000000)) := by
    intro d
    induction d with
    | zero =>
      intro i e
      refine Ev.unroll ?_
      simp only [impl_pricesOk.l0]
      exact Ev.ifn (by omega) (Ev.fin (allFrom_end (by omega)).symm)
    | succ d ih =>
      intro i e
      refine Ev.unroll ?_
      simp only [impl_pricesOk.l0, impl_in_f, some_bind, rd_nat', wrap_sc (show i < 9223372036854775807 by omega)]
      refine Ev.ifp (by omega) (Ev.ifp (by omega) (Ev.ifp (by omega) (ev_ite' (fun h => ?_) (fun h => Ev.fin ?_))))
      · rw [allFrom_yes (by omega) h]; exact ih (i + 1) (by omega)
      · rw [allFrom_no (by omega) (by simpa using h)]
  exact key l.length 0 (by omega)
theorem impl_Proves_l2 (cols prices : List Int) (hc : cols.length ≤ 10) (hp : prices.length ≤ 10) : ∀ (d j : Nat), j + d = prices.length → Ev (fun k => impl_Proves.l2 k cols prices prices.length j) (allFrom prices.length j (priceFine cols prices))
  | 0, j, e => Ev.unroll (by
      simp only [impl_Proves.l2]
      exact Ev.ifn (by omega) (Ev.fin (allFrom_end (by omega)).symm))
  | d + 1, j, e => Ev.unroll (by
      have ih := impl_Proves_l2 cols prices hc hp d (j + 1) (by omega)
      have hi := impl_hasInt_f cols j (show cols.length ≤ BIG by unfold BIG; omega)
      simp only [impl_Proves.l2, rd_nat', wrap_sc (show j < 9223372036854775807 by omega)]
      rw [allFrom_step (by omega)]
      refine Ev.ifp (by omega) (Ev.ifp (by omega) (Ev.ifp (by omega) (ev_ite' (fun h => Ev.fin ?_) (fun h => ev_ite' (fun h2 => ?_) (fun h2 => Ev.bind hi (ev_ite' (fun h3 => ?_) (fun h3 => Ev.fin ?_)))))))
      · unfold priceFine; rw [decide_eq_false (by omega)]; rfl
      · rw [show priceFine cols prices j = true by unfold priceFine; rw [decide_eq_true (show prices.getD j 0 ≤ 0 by omega), decide_eq_true h2, Bool.or_true]; rfl, Bool.true_and]; exact ih
      · rw [show priceFine cols prices j = true by unfold priceFine; rw [decide_eq_true (show prices.getD j 0 ≤ 0 by omega), h3, Bool.true_or]; rfl, Bool.true_and]; exact ih
      · unfold priceFine; rw [Bool.not_eq_true] at h3; rw [h3, decide_eq_false h2]; simp)
theorem impl_Proves_l1 (c : List (List Int)) (cols rows prices : List Int) (f : CostFacts c) (hcl : cols.length = c.length) (hrl : rows.length = c.length) (hr : pricesOk rows = true) (hp : pricesOk prices = true) (i : Nat) (hi : i < c.length) (hpl : (c.getD i []).length = prices.length) (R : Bool)
    (hR : Ev (fun k => impl_Proves.l0 k cols rows prices c c.length ((i + 1 : Nat) : Int)) R) : ∀ (d j : Nat), j + d = prices.length → Ev (fun k => impl_Proves.l1 k cols rows prices i c c.length i (c.getD i []) (c.getD i []).length j) (allFrom prices.length j (pairFine c cols rows prices i) && R)
  | 0, j, e => Ev.unroll (by
      have := f.n
      simp only [impl_Proves.l1, wrap_sc (show i < 9223372036854775807 by omega)]
      rw [allFrom_end (by omega), Bool.true_and]
      exact Ev.ifn (by omega) hR)
  | d + 1, j, e => Ev.unroll (by
      have := f.n
      have h10 := (f.row i hi).2.2
      have b1 := prices_in hr i
      have b2 := prices_in hp j
      have ih := impl_Proves_l1 c cols rows prices f hcl hrl hr hp i hi hpl R hR d (j + 1) (by omega)
      simp only [impl_Proves.l1, rd_nat', wrap_sc (show j < 9223372036854775807 by omega), wrap_id (show -9223372036854775808 ≤ rows.getD i 0 + prices.getD j 0 by omega) (by omega)]
      rw [allFrom_step (by omega)]
      refine Ev.ifp (by omega) (Ev.ifp (by omega) (Ev.ifp (by omega) (Ev.ifp (by omega) (Ev.ifp (by omega) (Ev.ifp (by omega) (ev_ite' (fun h => Ev.fin ?_) (fun h => Ev.ifp (by omega) (ev_ite' (fun h2 => ev_ite' (fun h3 => ?_) (fun h3 => Ev.fin ?_)) (fun h2 => ?_)))))))))
      · unfold pairFine; rw [decide_eq_false (by omega)]; rfl
      · rw [show pairFine c cols rows prices i j = true by unfold pairFine; rw [decide_eq_true (show rows.getD i 0 + prices.getD j 0 ≤ (c.getD i []).getD j 0 by omega), decide_eq_true h3, Bool.or_true]; rfl, Bool.true_and]; exact ih
      · unfold pairFine; rw [decide_eq_true h2, decide_eq_false h3]; simp
      · rw [show pairFine c cols rows prices i j = true by unfold pairFine; rw [decide_eq_true (show rows.getD i 0 + prices.getD j 0 ≤ (c.getD i []).getD j 0 by omega), decide_eq_false h2]; rfl, Bool.true_and]; exact ih)
theorem impl_Proves_l0 (c : List (List Int)) (cols rows prices : List Int) (f : CostFacts c) (hcl : cols.length = c.length) (hrl : rows.length = c.length) (hr : pricesOk rows = true) (hp : pricesOk prices = true) (hpl : prices.length = (c.getD 0 []).length) (hp10 : prices.length ≤ 10) : ∀ (d i : Nat), i + d = c.length → Ev (fun k => impl_Proves.l0 k cols rows prices c c.length i) (rowsFine c cols rows prices i && allFrom prices.length 0 (priceFine cols prices))
  | 0, i, e => Ev.unroll (by
      have := f.n
      simp only [impl_Proves.l0]
      unfold rowsFine
      rw [allFrom_end (by omega), Bool.true_and]
      exact Ev.ifn (by omega) (impl_Proves_l2 cols prices (by omega) hp10 prices.length 0 (by omega)))
  | d + 1, i, e => Ev.unroll (by
      have := f.n
      have ih := impl_Proves_l0 c cols rows prices f hcl hrl hr hp hpl hp10 d (i + 1) (by omega)
      have hri := (f.row i (by omega)).1
      simp only [impl_Proves.l0, rdSS_n]
      unfold rowsFine at ih ⊢
      rw [allFrom_step (show i < c.length by omega), Bool.and_assoc]
      exact Ev.ifp (by omega) (Ev.ifp (by omega) (Ev.ifp (by omega) (impl_Proves_l1 c cols rows prices f hcl hrl hr hp i (by omega) (by omega) _ ih prices.length 0 (by omega)))))
theorem impl_Proves_f (c : List (List Int)) (cols rows prices : List Int) (h1 : cols.length ≤ 1048576) (h2 : rows.length ≤ 1048576) (h3 : prices.length ≤ 1048576) : Ev (fun k => impl_Proves.f k c cols rows prices) (provesOf c cols rows prices) := by
  have no : provesOf c cols rows prices = false → Ev (fun k => impl_Proves.j1 k c cols rows prices true) (provesOf c cols rows prices) := fun e => Ev.unroll (by
    simp only [impl_Proves.j1]
    exact Ev.ifp trivial (Ev.fin e.symm))
  have main : Ev (fun k => impl_Proves.j0 k c cols rows prices ((c.getD 0 []).length : Int)) (provesOf c cols rows prices) := Ev.unroll (by
    simp only [impl_Proves.j0]
    refine Ev.bind (impl_SumOf_f c cols (by unfold BIG; omega)) (ev_ite' (fun hs => no ?_) (fun hs => ev_ite' (fun hrl => ev_ite' (fun hpl => Ev.bind (impl_pricesOk_f rows h2) (ev_ite' (fun hr => Ev.bind (impl_pricesOk_f prices h3) ?_) (fun hr => no ?_))) (fun hpl => no ?_)) (fun hrl => no ?_)))
    · unfold provesOf; rw [decide_eq_false (by omega)]; rfl
    · have hso := sumOf_ok (show 0 ≤ sumOf c cols by omega)
      by_cases hp : pricesOk prices = true
      · rw [hp]
        have hp10 : prices.length ≤ 10 := by
          by_cases h0 : 0 < c.length
          · have := (hso.1.row 0 h0).2.2; omega
          · have : c = [] := List.length_eq_zero_iff.1 (by omega)
            have h8 : (c.getD 0 []).length = 0 := by rw [this]; rfl
            omega
        refine Ev.unroll ?_
        simp only [impl_Proves.j1]
        rw [show provesOf c cols rows prices = (rowsFine c cols rows prices 0 && allFrom prices.length 0 (priceFine cols prices)) by unfold provesOf; rw [decide_eq_true (show 0 ≤ sumOf c cols by omega), decide_eq_true (show rows.length = c.length by omega), decide_eq_true (show prices.length = (c.getD 0 []).length by omega), hr, hp]; rfl]
        exact Ev.ifn (by simp) (impl_Proves_l0 c cols rows prices hso.1 hso.2 (by omega) hr hp (by omega) hp10 c.length 0 (by omega))
      · rw [Bool.not_eq_true] at hp
        rw [hp]
        exact no (by unfold provesOf; rw [hp]; simp)
    · unfold provesOf; rw [Bool.not_eq_true] at hr; rw [hr]; simp
    · unfold provesOf; rw [decide_eq_false (show ¬ prices.length = (c.getD 0 []).length by omega)]; simp
    · unfold provesOf; rw [decide_eq_false (show ¬ rows.length = c.length by omega)]; simp)
  unfold impl_Proves.f
  by_cases h0 : 0 < c.length
  · refine Ev.ifp (by omega) (Ev.ifp (by omega) ?_)
    rw [rdSS_z]
    exact main
  · have e : c = [] := List.length_eq_zero_iff.1 (by omega)
    refine Ev.ifn (by omega) ?_
    rw [e] at main ⊢
    exact main
/-- Which columns are used so far: in whole rows, and in the row that is walked. -/
def UsedSo (cols : List Int) (n i j : Nat) (U : List Bool) : Prop := U.length = n ∧ ∀ x : Nat, x < n → U.getD x false = (cols.take (if x < j then i + 1 else i)).contains (x : Int)
theorem rdB_nat {U : List Bool} {i : Nat} : rdOf false U (i : Int) = U.getD i false := by unfold rdOf; rw [Int.toNat_natCast]
theorem used_step {cols : List Int} {n i j : Nat} {U : List Bool} (h : UsedSo cols n i j U) (hi : i < cols.length) (hj : j < n) (b : Bool) (hb : b = (U.getD j false || decide (cols.getD i 0 = (j : Int)))) : UsedSo cols n i (j + 1) (U.set j b) := by
  refine ⟨by rw [List.length_set]; exact h.1, fun x hx => ?_⟩
  have htk : cols.take (i + 1) = cols.take i ++ [cols.getD i 0] := by rw [List.take_succ_eq_append_getElem hi, getD_at hi]
  by_cases e : x = j
  · subst e
    have h2 := h.2 x hx
    rw [if_neg (by omega)] at h2
    rw [getD_at (by rw [List.length_set, h.1]; exact hx), List.getElem_set_self, hb, h2, if_pos (by omega), htk, Bool.eq_iff_iff]
    simp only [Bool.or_eq_true, decide_eq_true_eq, List.contains_iff_mem, List.mem_append, List.mem_singleton]
    exact or_congr Iff.rfl ⟨fun h => h.symm, fun h => h.symm⟩
  · have h2 := h.2 x hx
    rw [List.getD_eq_getElem?_getD, List.getElem?_set_ne (by omega), ← List.getD_eq_getElem?_getD, h2]
    by_cases h3 : x < j
    · rw [if_pos h3, if_pos (by omega)]
    · rw [if_neg h3, if_neg (by omega)]
theorem used_next {cols : List Int} {n i : Nat} {U : List Bool} (h : UsedSo cols n i n U) : UsedSo cols n (i + 1) 0 U := by
  refine ⟨h.1, fun x hx => ?_⟩
  rw [h.2 x hx, if_pos hx, if_neg (by omega)]
theorem spec_Proves_l2 (cols prices : List Int) (U : List Bool) (hp : prices.length ≤ 10) (hu : U.length = prices.length) (hU : ∀ x : Nat, x < prices.length → U.getD x false = cols.contains (x : Int)) : ∀ (d j : Nat), j + d = prices.length → Ev (fun k => spec_Proves.l2 k prices U j) (allFrom prices.length j (priceFine cols prices))
  | 0, j, e => Ev.unroll (by
      simp only [spec_Proves.l2]
      exact Ev.ifn (by omega) (Ev.fin (allFrom_end (by omega)).symm))
  | d + 1, j, e => Ev.unroll (by
      have ih := spec_Proves_l2 cols prices U hp hu hU d (j + 1) (by omega)
      simp only [spec_Proves.l2, rd_nat', rdB_nat, wrap_sc (show j < 9223372036854775807 by omega), hU j (by omega)]
      rw [allFrom_step (by omega)]
      refine Ev.ifp (by omega) (Ev.ifp (by omega) (ev_ite' (fun h => Ev.fin ?_) (fun h => Ev.ifp (by omega) (ev_ite' (fun h3 => ?_) (fun h3 => ev_ite' (fun h2 => ?_) (fun h2 => Ev.fin ?_))))))
      · unfold priceFine; rw [decide_eq_false (by omega)]; rfl
      · rw [show priceFine cols prices j = true by unfold priceFine; rw [decide_eq_true (show prices.getD j 0 ≤ 0 by omega), h3, Bool.true_or]; rfl, Bool.true_and]; exact ih
      · rw [show priceFine cols prices j = true by unfold priceFine; rw [decide_eq_true (show prices.getD j 0 ≤ 0 by omega), decide_eq_true h2, Bool.or_true]; rfl, Bool.true_and]; exact ih
      · unfold priceFine; rw [Bool.not_eq_true] at h3; rw [h3, decide_eq_false h2]; simp)
theorem spec_Proves_l1 (c : List (List Int)) (cols rows prices : List Int) (f : CostFacts c) (hcl : cols.length = c.length) (hrl : rows.length = c.length) (hr : pricesOk rows = true) (hp : pricesOk prices = true) (i : Nat) (hi : i < c.length) (hpl : (c.getD i []).length = prices.length) (R : Bool)
    (hR : ∀ U, UsedSo cols prices.length (i + 1) 0 U → Ev (fun k => spec_Proves.l0 k c cols rows prices U ((i + 1 : Nat) : Int)) R) : ∀ (d j : Nat) (U : List Bool), j + d = prices.length → UsedSo cols prices.length i j U → Ev (fun k => spec_Proves.l1 k c cols rows prices U i j) (allFrom prices.length j (pairFine c cols rows prices i) && R)
  | 0, j, U, e, hU => Ev.unroll (by
      have := f.n
      simp only [spec_Proves.l1, wrap_sc (show i < 9223372036854775807 by omega)]
      rw [allFrom_end (by omega), Bool.true_and]
      obtain rfl : j = prices.length := by omega
      exact Ev.ifn (by omega) (hR U (used_next hU)))
  | d + 1, j, U, e, hU => Ev.unroll (by
      have := f.n
      have hul := hU.1
      have h10 := (f.row i hi).2.2
      have b1 := prices_in hr i
      have b2 := prices_in hp j
      have ih := fun b hb => spec_Proves_l1 c cols rows prices f hcl hrl hr hp i hi hpl R hR d (j + 1) (U.set j b) (by omega) (used_step hU (by omega) (by omega) b hb)
      simp only [spec_Proves.l1, rdSS_n, rd_nat', rdB_nat, Int.toNat_natCast, wrap_sc (show j < 9223372036854775807 by omega), wrap_id (show -9223372036854775808 ≤ rows.getD i 0 + prices.getD j 0 by omega) (by omega)]
      rw [allFrom_step (by omega)]
      have go : Ev (fun k => if U.getD j false = true then spec_Proves.l1 k c cols rows prices (U.set j true) i ((j + 1 : Nat) : Int) else spec_Proves.l1 k c cols rows prices (U.set j (cols.getD i 0 == (j : Int))) i ((j + 1 : Nat) : Int)) (allFrom prices.length (j + 1) (pairFine c cols rows prices i) && R) := by
        refine ev_ite' (fun h => ih _ (by rw [h, Bool.true_or])) (fun h => ih _ ?_)
        rw [Bool.not_eq_true] at h
        rw [h, Bool.false_or, Bool.eq_iff_iff]; simp
      refine Ev.ifp (by omega) (Ev.ifp (by omega) (Ev.ifp (by omega) (Ev.ifp (by omega) (Ev.ifp (by omega) (Ev.ifp (by omega) (ev_ite' (fun h => Ev.fin ?_) (fun h => Ev.ifp (by omega) (ev_ite' (fun h2 => ev_ite' (fun h3 => Ev.ifp (by omega) ?_) (fun h3 => Ev.fin ?_)) (fun h2 => Ev.ifp (by omega) ?_)))))))))
      · unfold pairFine; rw [decide_eq_false (by omega)]; rfl
      · rw [show pairFine c cols rows prices i j = true by unfold pairFine; rw [decide_eq_true (show rows.getD i 0 + prices.getD j 0 ≤ (c.getD i []).getD j 0 by omega), decide_eq_true h3, Bool.or_true]; rfl, Bool.true_and]; exact go
      · unfold pairFine; rw [decide_eq_true h2, decide_eq_false h3]; simp
      · rw [show pairFine c cols rows prices i j = true by unfold pairFine; rw [decide_eq_true (show rows.getD i 0 + prices.getD j 0 ≤ (c.getD i []).getD j 0 by omega), decide_eq_false h2]; rfl, Bool.true_and]; exact go)
theorem spec_Proves_l0 (c : List (List Int)) (cols rows prices : List Int) (f : CostFacts c) (hcl : cols.length = c.length) (hrl : rows.length = c.length) (hr : pricesOk rows = true) (hp : pricesOk prices = true) (hpl : prices.length = (c.getD 0 []).length) (hp10 : prices.length ≤ 10) : ∀ (d i : Nat) (U : List Bool), i + d = c.length → UsedSo cols prices.length i 0 U → Ev (fun k => spec_Proves.l0 k c cols rows prices U i) (rowsFine c cols rows prices i && allFrom prices.length 0 (priceFine cols prices))
  | 0, i, U, e, hU => Ev.unroll (by
      have := f.n
      simp only [spec_Proves.l0]
      unfold rowsFine
      rw [allFrom_end (by omega), Bool.true_and]
      exact Ev.ifn (by omega) (spec_Proves_l2 cols prices U hp10 hU.1 (fun x hx => by rw [hU.2 x hx, if_neg (by omega), List.take_of_length_le (by omega)]) prices.length 0 (by omega)))
  | d + 1, i, U, e, hU => Ev.unroll (by
      have := f.n
      have ih := fun U hU => spec_Proves_l0 c cols rows prices f hcl hrl hr hp hpl hp10 d (i + 1) U (by omega) hU
      have hri := (f.row i (by omega)).1
      simp only [spec_Proves.l0, rdSS_n]
      unfold rowsFine at ih ⊢
      rw [allFrom_step (show i < c.length by omega), Bool.and_assoc]
      exact Ev.ifp (by omega) (Ev.ifp (by omega) (Ev.ifp (by omega) (spec_Proves_l1 c cols rows prices f hcl hrl hr hp i (by omega) (by omega) _ ih prices.length 0 U (by omega) hU))))
theorem spec_Proves_f (c : List (List Int)) (cols rows prices : List Int) (h1 : cols.length ≤ 1048576) (h2 : rows.length ≤ 1048576) (h3 : prices.length ≤ 1048576) : Ev (fun k => spec_Proves.f k c cols rows prices) (provesOf c cols rows prices) := by
  have no : provesOf c cols rows prices = false → Ev (fun k => spec_Proves.j0 k c cols rows prices true) (provesOf c cols rows prices) := fun e => Ev.unroll (by
    simp only [spec_Proves.j0]
    exact Ev.ifp trivial (Ev.fin e.symm))
  unfold spec_Proves.f
  refine Ev.bind (spec_SumOf_f c cols (by unfold BIG; omega)) (ev_ite' (fun hs => no ?_) (fun hs => ?_))
  · unfold provesOf; rw [decide_eq_false (by omega)]; rfl
  · have hso := sumOf_ok (show 0 ≤ sumOf c cols by omega)
    have hrep : UsedSo cols prices.length 0 0 (List.replicate prices.length false) := ⟨by simp, fun x hx => by rw [getD_at (by simp; exact hx)]; simp⟩
    have rest : (c.length = 0 → prices.length = 0) → Ev (fun k => if (rows.length : Int) = (c.length : Int) then ((spec_l4Small.f k rows).bind fun t141 => (if t141 = true then ((spec_l4Small.f k prices).bind fun t142 => (spec_Proves.j0 k c cols rows prices (!t142))) else (spec_Proves.j0 k c cols rows prices true))) else (spec_Proves.j0 k c cols rows prices true)) (provesOf c cols rows prices) := fun hc0 => by
      refine ev_ite' (fun hrl => Ev.bind (spec_l4Small_f rows h2) (ev_ite' (fun hr => Ev.bind (spec_l4Small_f prices h3) ?_) (fun hr => no ?_))) (fun hrl => no ?_)
      · by_cases hp : pricesOk prices = true
        · rw [hp]
          refine Ev.unroll ?_
          simp only [spec_Proves.j0, Int.toNat_natCast]
          refine Ev.ifn (by simp) (Ev.ifp (by omega) (Ev.ifp (by omega) ?_))
          by_cases hpl : prices.length = (c.getD 0 []).length
          · have hp10 : prices.length ≤ 10 := by
              by_cases h0 : 0 < c.length
              · have := (hso.1.row 0 h0).2.2; omega
              · have := hc0 (by omega); omega
            rw [show provesOf c cols rows prices = (rowsFine c cols rows prices 0 && allFrom prices.length 0 (priceFine cols prices)) by unfold provesOf; rw [decide_eq_true (show 0 ≤ sumOf c cols by omega), decide_eq_true (show rows.length = c.length by omega), decide_eq_true hpl, hr, hp]; rfl]
            exact spec_Proves_l0 c cols rows prices hso.1 hso.2 (by omega) hr hp hpl hp10 c.length 0 _ (by omega) hrep
          · have hpos : 0 < c.length := by
              by_cases h0 : 0 < c.length
              · exact h0
              · have h9 := hc0 (by omega)
                have : c = [] := List.length_eq_zero_iff.1 (by omega)
                have h8 : (c.getD 0 []).length = 0 := by rw [this]; rfl
                omega
            refine Ev.unroll ?_
            simp only [spec_Proves.l0, rdSS_z]
            refine Ev.ifp (by omega) (Ev.ifp (by omega) (Ev.ifn (by omega) (Ev.fin ?_)))
            unfold provesOf; rw [decide_eq_false hpl]; simp
        · rw [Bool.not_eq_true] at hp
          rw [hp]
          exact no (by unfold provesOf; rw [hp]; simp)
      · unfold provesOf; rw [Bool.not_eq_true] at hr; rw [hr]; simp
      · unfold provesOf; rw [decide_eq_false (show ¬ rows.length = c.length by omega)]; simp
    refine ev_ite' (fun h0 => ev_ite' (fun hpp => no ?_) (fun hpp => rest (fun _ => by omega))) (fun h0 => rest (fun h => by omega))
    have e : c = [] := List.length_eq_zero_iff.1 (by omega)
    unfold provesOf
    rw [decide_eq_false (show ¬ prices.length = (c.getD 0 []).length by rw [e]; simp; intro h; rw [h] at hpp; simp at hpp)]
    simp

/-! #### FnExactProves -/
theorem FnExactProves : ∀ (l0 : List (List (Int))) (l1 : List (Int)) (l2 : List (Int)) (l3 : List (Int)), (l0.length ≤ 9223372036854775807 ∧ ∀ y0 ∈ l0, (y0.length ≤ 9223372036854775807 ∧ ∀ y1 ∈ y0, (-9223372036854775808 ≤ y1 ∧ y1 ≤ 9223372036854775807))) → (l1.length ≤ 9223372036854775807 ∧ ∀ y0 ∈ l1, (-9223372036854775808 ≤ y0 ∧ y0 ≤ 9223372036854775807)) → (l2.length ≤ 9223372036854775807 ∧ ∀ y0 ∈ l2, (-9223372036854775808 ≤ y0 ∧ y0 ≤ 9223372036854775807)) → (l3.length ≤ 9223372036854775807 ∧ ∀ y0 ∈ l3, (-9223372036854775808 ≤ y0 ∧ y0 ≤ 9223372036854775807)) → ∃ k, laws_FnExactProves.f k l0 l1 l2 l3 = some true := by
  intro l cols rows prices hh ⟨hcl, _⟩ ⟨hrl, _⟩ ⟨hpl, _⟩
  have hl := hh.1
  have hx : ∀ x ∈ l, x.length ≤ 9223372036854775807 := fun x hx => (hh.2 x hx).1
  refine Ev.rounds ?_
  unfold laws_FnExactProves.f
  by_cases b1 : cols.length ≤ 1048576
  · by_cases b2 : rows.length ≤ 1048576
    · by_cases b3 : prices.length ≤ 1048576
      · obtain ⟨r, hr, hr2⟩ := szIntSS_f l hl hx
        refine Ev.ifn (by omega) (Ev.ifn (by omega) (Ev.ifn (by omega) (Ev.bind hr ?_)))
        by_cases h0 : r < 0
        · exact Ev.ifp h0 (Ev.now _)
        · obtain ⟨h1, h2⟩ := hr2 (by omega)
          have e1 := toIntSS_f l h1 h2
          have c1 := toIntS_f cols b1
          have c2 := toIntS_f rows b2
          have c3 := toIntS_f prices b3
          have e3 := eqIntSS_f l h1 h2
          have d1 := eqIntS_f cols (show cols.length ≤ BIG by unfold BIG; omega)
          have d2 := eqIntS_f rows (show rows.length ≤ BIG by unfold BIG; omega)
          have d3 := eqIntS_f prices (show prices.length ≤ BIG by unfold BIG; omega)
          have e5 := spec_Proves_f l cols rows prices b1 b2 b3
          have e6 := impl_Proves_f l cols rows prices b1 b2 b3
          repeat (first | exact Ev.now _ | (with_reducible refine Ev.bind (e1) ?_; try dsimp only) | (with_reducible refine Ev.bind (c1) ?_; try dsimp only) | (with_reducible refine Ev.bind (c2) ?_; try dsimp only) | (with_reducible refine Ev.bind (c3) ?_; try dsimp only) | (with_reducible refine Ev.bind (e3) ?_; try dsimp only) | (with_reducible refine Ev.bind (d1) ?_; try dsimp only) | (with_reducible refine Ev.bind (d2) ?_; try dsimp only) | (with_reducible refine Ev.bind (d3) ?_; try dsimp only) | (with_reducible refine Ev.bind (e5) ?_; try dsimp only) | (with_reducible refine Ev.bind (e6) ?_; try dsimp only) | (with_reducible refine Ev.ifp ?cc ?_; (case cc => first | rfl | decide | assumption | omega)) | (with_reducible refine Ev.ifn ?cc ?_; (case cc => first | decide | assumption | omega)) | simp only [bne_self_eq_false, some_bind])
      · exact Ev.ifn (by omega) (Ev.ifn (by omega) (Ev.ifp (by omega) (Ev.now _)))
    · exact Ev.ifn (by omega) (Ev.ifp (by omega) (Ev.now _))
  · exact Ev.ifp (by omega) (Ev.now _)

end Go.Proofs.Ytjeonneegmhcdaa.Pure
