/- Proved here: the law FnExactPodsOf, over numbers and lists: for all arguments it returns true; no condition. -/
import Derived.Test.YtjeonneegmhcdaaPFnExactPodsOfx3
namespace Go.Proofs.Ytjeonneegmhcdaa.Pure
open Go.RowKit Go.Proofs.Ytjeonneegmhcdaa.PFnExactPodsOf Go.Proofs.YtjeonneegmhcdaaW.PrintWords Go.Proofs.YtjeonneegmhcdaaW.PrintLast
set_option linter.unusedVariables false
set_option linter.unusedSimpArgs false

/-! #### base -/
/-! Words of this session: rounds, whole numbers in their bounds, reading by index. -/
theorem Ev.unroll {α : Type} {g : Nat → Option α} {r : α} (h : Ev (fun k => g (k + 1)) r) : Ev g r := Ev.step (fun _ => rfl) h
theorem Ev.const {α : Type} {x : Option α} {r : α} (h : x = some r) : Ev (fun _ => x) r := ⟨0, fun _ _ => h⟩
theorem Ev.fin {α : Type} {r s : α} (h : r = s) : Ev (fun _ => some r) s := by rw [h]; exact Ev.now _
theorem wrap_id {x : Int} (h0 : -9223372036854775808 ≤ x) (h1 : x ≤ 9223372036854775807) : wrap64 x = x := by unfold wrap64; omega
/-- The bound of all lengths here. -/
abbrev BIG : Nat := 4611686018427387904
theorem wrap_succ {i n : Nat} (h : i < n) (hn : n ≤ BIG) : wrap64 ((i : Int) + 1) = ((i + 1 : Nat) : Int) := by unfold wrap64; unfold BIG at hn; omega
theorem wrap_pred {i n : Nat} (h : i < n) (h0 : 0 < i) (hn : n ≤ BIG) : wrap64 ((i : Int) - 1) = ((i - 1 : Nat) : Int) := by unfold wrap64; unfold BIG at hn; omega
theorem rd_nat {xs : List Int} {i : Nat} (h : i < xs.length) : rd xs (i : Int) = xs[i] := by unfold rd; simp [List.getD, h]
theorem getD_nat {α : Type} {xs : List α} {d : α} {i : Nat} (h : i < xs.length) : xs.getD (i : Int).toNat d = xs[i] := by simp [List.getD, h]
theorem getD_zero {α : Type} {xs : List α} {d : α} (h : 0 < xs.length) : xs.getD (0 : Int).toNat d = xs[0] := by simp [List.getD, h]
theorem drop_cons {α : Type} {xs : List α} {i : Nat} (h : i < xs.length) : xs.drop i = xs[i] :: xs.drop (i + 1) := List.drop_eq_getElem_cons h
theorem drop_end {α : Type} {xs : List α} {i : Nat} (h : xs.length ≤ i) : xs.drop i = [] := List.drop_of_length_le h
/-- A list filled from the front, by index. -/
theorem fill_step {α : Type} (ys zs : List α) (x : α) {i : Nat} (hi : i = ys.length) (hz : 0 < zs.length) : (ys ++ zs).set i x = (ys ++ [x]) ++ zs.drop 1 := by
  subst hi
  match zs, hz with
  | z :: zs, _ => simp
theorem set_id {α : Type} (xs : List α) (i : Nat) (h : i < xs.length) : xs.set i xs[i] = xs := by
  apply List.ext_getElem
  · simp
  · intro j h1 h2
    rw [List.getElem_set]
    split
    · rename_i e; subst e; rfl
    · rfl
theorem some_bind {α β : Type} (a : α) (f : α → Option β) : (some a).bind f = f a := rfl
theorem getD_at {α : Type} {xs : List α} {d : α} {i : Nat} (h : i < xs.length) : xs.getD i d = xs[i] := by simp [List.getD, h]
/-- All places from i on, below n. -/
def allFrom (n i : Nat) (p : Nat → Bool) : Bool := (List.range' i (n - i)).all p
theorem allFrom_end {n i : Nat} {p : Nat → Bool} (h : n ≤ i) : allFrom n i p = true := by
  unfold allFrom
  rw [show n - i = 0 by omega]; rfl
theorem allFrom_step {n i : Nat} {p : Nat → Bool} (h : i < n) : allFrom n i p = (p i && allFrom n (i + 1) p) := by
  unfold allFrom
  rw [show n - i = (n - (i + 1)) + 1 by omega, List.range'_succ, List.all_cons]
theorem allFrom_no {n i : Nat} {p : Nat → Bool} (h : i < n) (hp : p i = false) : allFrom n i p = false := by rw [allFrom_step h, hp, Bool.false_and]
theorem allFrom_yes {n i : Nat} {p : Nat → Bool} (h : i < n) (hp : p i = true) : allFrom n i p = allFrom n (i + 1) p := by rw [allFrom_step h, hp, Bool.true_and]
theorem allFrom_iff {n i : Nat} {p : Nat → Bool} : allFrom n i p = true ↔ ∀ j, i ≤ j → j < n → p j = true := by
  unfold allFrom
  rw [List.all_eq_true]
  constructor
  · intro h j h1 h2
    exact h j (by rw [List.mem_range'_1]; omega)
  · intro h j hj
    rw [List.mem_range'_1] at hj
    exact h j hj.1 (by omega)
theorem itd_pos {α : Type} {p : Prop} [Decidable p] (h : p) {a b : α} : (if decide p = true then a else b) = a := if_pos (decide_eq_true h)
theorem itd_neg {α : Type} {p : Prop} [Decidable p] (h : ¬ p) {a b : α} : (if decide p = true then a else b) = b := if_neg (by rw [decide_eq_false h]; decide)

/-! #### EqInts -/
theorem eqIntS_l0 (xs : List Int) (hn : xs.length ≤ BIG) : ∀ (d i : Nat), i + d = xs.length → Ev (fun k => laws_eqIntS.l0 k xs xs i) true
  | 0, i, h => Ev.unroll (by
      simp only [laws_eqIntS.l0]
      simp only [if_neg (show ¬ (i : Int) < xs.length by omega)]
      exact Ev.now _)
  | d + 1, i, h => Ev.unroll (by
      have hi : i < xs.length := by omega
      simp only [laws_eqIntS.l0]
      simp only [if_pos (show (i : Int) < xs.length by omega), if_pos (show (0 : Int) ≤ i by omega), wrap_succ hi hn, if_true]
      exact eqIntS_l0 xs hn d (i + 1) (by omega))
theorem eqIntS_f (l : List Int) (h : l.length ≤ BIG) : Ev (fun k => laws_eqIntS.f k l l) true := by
  unfold laws_eqIntS.f
  simp only [if_true]
  exact eqIntS_l0 l h l.length 0 (by omega)

/-! #### Marks -/
/-- a, a + 1, .. : n of them. -/
def marksFrom (a n : Nat) : List Int := (List.range' a n).map (fun j : Nat => (j : Int))
theorem marksFrom_length (a n : Nat) : (marksFrom a n).length = n := by unfold marksFrom; simp
theorem marksFrom_succ (a n : Nat) : marksFrom a (n + 1) = marksFrom a n ++ [((a + n : Nat) : Int)] := by
  unfold marksFrom
  rw [List.range'_1_concat, List.map_append]; rfl
theorem marksFrom_getD (a n i : Nat) (h : i < n) : (marksFrom a n).getD i 0 = ((a + i : Nat) : Int) := by
  rw [getD_at (by rw [marksFrom_length]; exact h)]
  unfold marksFrom
  simp
theorem markIntS_l0 (a n : Nat) (hn : a + n ≤ BIG) : ∀ (d i : Nat) (zs : List Int), i + d = n → zs.length = d → Ev (fun k => laws_markIntS.l0 k (marksFrom a i ++ zs) ((a + i : Nat) : Int) i) (((a + n : Nat) : Int), marksFrom a n)
  | 0, i, zs, h, hz => Ev.unroll (by
      obtain rfl := List.length_eq_zero_iff.1 hz
      obtain rfl : i = n := by omega
      simp only [laws_markIntS.l0, List.append_nil, marksFrom_length, Int.lt_irrefl, if_false]
      exact Ev.now _)
  | d + 1, i, zs, h, hz => Ev.unroll (by
      have hl : (marksFrom a i ++ zs).length = n := by rw [List.length_append, marksFrom_length]; omega
      simp only [laws_markIntS.l0, hl]
      simp only [if_pos (show (i : Int) < (n : Int) by omega), if_pos (show (0 : Int) ≤ i by omega), wrap_succ (show i < n by omega) (by omega), wrap_succ (show a + i < a + n by omega) hn, Int.toNat_natCast]
      rw [fill_step (marksFrom a i) zs _ (marksFrom_length a i).symm (by omega), ← marksFrom_succ, Nat.add_assoc]
      exact markIntS_l0 a n hn d (i + 1) _ (by omega) (by simp; omega))
theorem markIntS_f (l : List Int) (a : Nat) (hn : a + l.length ≤ BIG) : Ev (fun k => laws_markIntS.f k l (a : Int)) (((a + l.length : Nat) : Int), marksFrom a l.length) :=
  markIntS_l0 a l.length hn l.length 0 l (by omega) rfl
theorem heldIntS_l0 (a n : Nat) (hn : a + n ≤ BIG) : ∀ (d i : Nat), i + d = n → Ev (fun k => laws_heldIntS.l0 k (marksFrom a n) ((a + i : Nat) : Int) i) ((a + n : Nat) : Int)
  | 0, i, h => Ev.unroll (by
      obtain rfl : i = n := by omega
      simp only [laws_heldIntS.l0, marksFrom_length, Int.lt_irrefl, if_false]
      exact Ev.now _)
  | d + 1, i, h => Ev.unroll (by
      simp only [laws_heldIntS.l0, marksFrom_length]
      simp only [if_pos (show (i : Int) < (n : Int) by omega), if_pos (show (0 : Int) ≤ i by omega), wrap_succ (show i < n by omega) (by omega), wrap_succ (show a + i < a + n by omega) hn, rd, Int.toNat_natCast, marksFrom_getD a n i (by omega), if_true]
      exact heldIntS_l0 a n hn d (i + 1) (by omega))
theorem heldIntS_f (a n : Nat) (hn : a + n ≤ BIG) : Ev (fun k => laws_heldIntS.f k (marksFrom a n) (a : Int)) ((a + n : Nat) : Int) :=
  heldIntS_l0 a n hn n 0 (by omega)

/-! #### Picks -/
theorem szPickS_f (l : List S112) (b : Int) (h : l.length ≤ 9223372036854775807) (h0 : 0 ≤ b) (h1 : b ≤ 1048576) : laws_szPickS.f l b = some (if (l.length : Int) ≤ b then b - (l.length : Int) else -1) := by
  unfold laws_szPickS.f
  rw [wrap_id (by omega) (by omega)]
  split <;> split <;> first | rfl | omega
def mkPick (a : S112) : S110 := ⟨a.f0, a.f1, a.f2⟩
theorem toPickS_l0 (xs : List S112) (hn : xs.length ≤ 1048576) : ∀ (d i : Nat) (ys zs : List S110), i + d = xs.length → ys.length = i → zs.length = d → ys = (xs.take i).map mkPick →
    Ev (fun k => laws_toPickS.l0 k xs (ys ++ zs) i) (xs.map mkPick)
  | 0, i, ys, zs, h, hy, hz, e => Ev.unroll (by
      simp only [laws_toPickS.l0]
      simp only [if_neg (show ¬ (i : Int) < xs.length by omega)]
      obtain rfl := List.length_eq_zero_iff.1 hz
      rw [e, List.take_of_length_le (by omega), List.append_nil]
      exact Ev.now _)
  | d + 1, i, ys, zs, h, hy, hz, e => Ev.unroll (by
      have hi : i < xs.length := by omega
      simp only [laws_toPickS.l0, laws_toPick.f, some_bind]
      simp only [if_pos (show (i : Int) < xs.length by omega), if_pos (show (0 : Int) ≤ i by omega), if_pos (show (i : Int) < (ys ++ zs).length by simp; omega), wrap_succ hi (by unfold BIG; omega), rd_T112, Int.toNat_natCast, getD_at hi]
      rw [fill_step ys zs _ hy.symm (by omega)]
      exact toPickS_l0 xs hn d (i + 1) _ _ (by omega) (by simp; omega) (by simp; omega) (by rw [List.take_succ_eq_append_getElem hi, List.map_append, ← e]; rfl))
theorem toPickS_f (l : List S112) (h : l.length ≤ 1048576) : Ev (fun k => laws_toPickS.f k l) (l.map mkPick) := by
  unfold laws_toPickS.f
  simp only [if_pos (show (0 : Int) ≤ l.length by omega), if_pos (show (l.length : Int).toNat ≤ 11728124029610 by omega)]
  rw [Int.toNat_natCast]
  exact toPickS_l0 l h l.length 0 [] _ (by omega) rfl (by simp) rfl
theorem eqPick_f (r : S110) : laws_eqPick.f r.f0 r.f1 r.f2 r.f0 r.f1 r.f2 = some true := by
  unfold laws_eqPick.f
  simp
theorem eqPickS_l0 (xs : List S110) (hn : xs.length ≤ BIG) : ∀ (d i : Nat), i + d = xs.length → Ev (fun k => laws_eqPickS.l0 k xs xs i) true
  | 0, i, h => Ev.unroll (by
      simp only [laws_eqPickS.l0]
      simp only [if_neg (show ¬ (i : Int) < xs.length by omega)]
      exact Ev.now _)
  | d + 1, i, h => Ev.unroll (by
      have hi : i < xs.length := by omega
      simp only [laws_eqPickS.l0, eqPick_f, some_bind]
      simp only [if_pos (show (i : Int) < xs.length by omega), if_pos (show (0 : Int) ≤ i by omega), wrap_succ hi hn, if_true]
      exact eqPickS_l0 xs hn d (i + 1) (by omega))
theorem eqPickS_f (l : List S110) (h : l.length ≤ BIG) : Ev (fun k => laws_eqPickS.f k l l) true := by
  unfold laws_eqPickS.f
  simp only [if_true]
  exact eqPickS_l0 l h l.length 0 (by omega)

/-! #### MarkPicks -/
theorem markPickS_l0 (n : Nat) (hn : n ≤ 1048576) : ∀ (d i a : Nat) (zs : List S110), i + d = n → zs.length = n → a ≤ 1048576 * 8 + 3 * i → ∃ r : Int × List S110, Ev (fun k => laws_markPickS.l0 k zs (a : Int) i) r ∧ r.1 = ((a + 3 * d : Nat) : Int) ∧ r.2.length = n
  | 0, i, a, zs, h, hz, ha => ⟨((a : Int), zs), Ev.unroll (by
      simp only [laws_markPickS.l0, hz]
      simp only [if_neg (show ¬ (i : Int) < (n : Int) by omega)]
      exact Ev.now _), rfl, hz⟩
  | d + 1, i, a, zs, h, hz, ha => by
      have w1 : wrap64 ((a : Int) + 1) = ((a + 1 : Nat) : Int) := by unfold wrap64; omega
      have w2 : wrap64 (((a + 1 : Nat) : Int) + 1) = ((a + 2 : Nat) : Int) := by unfold wrap64; omega
      have w3 : wrap64 (((a + 2 : Nat) : Int) + 1) = ((a + 3 : Nat) : Int) := by unfold wrap64; omega
      obtain ⟨r, hr, h1, h2⟩ := markPickS_l0 n hn d (i + 1) (a + 3) (((zs.set i ⟨(a : Int), (rd_T110 zs i).f1, (rd_T110 zs i).f2⟩).set i ⟨(rd_T110 (zs.set i ⟨(a : Int), (rd_T110 zs i).f1, (rd_T110 zs i).f2⟩) i).f0, ((a + 1 : Nat) : Int), (rd_T110 (zs.set i ⟨(a : Int), (rd_T110 zs i).f1, (rd_T110 zs i).f2⟩) i).f2⟩).set i ⟨(rd_T110 ((zs.set i ⟨(a : Int), (rd_T110 zs i).f1, (rd_T110 zs i).f2⟩).set i ⟨(rd_T110 (zs.set i ⟨(a : Int), (rd_T110 zs i).f1, (rd_T110 zs i).f2⟩) i).f0, ((a + 1 : Nat) : Int), (rd_T110 (zs.set i ⟨(a : Int), (rd_T110 zs i).f1, (rd_T110 zs i).f2⟩) i).f2⟩) i).f0, (rd_T110 ((zs.set i ⟨(a : Int), (rd_T110 zs i).f1, (rd_T110 zs i).f2⟩).set i ⟨(rd_T110 (zs.set i ⟨(a : Int), (rd_T110 zs i).f1, (rd_T110 zs i).f2⟩) i).f0, ((a + 1 : Nat) : Int), (rd_T110 (zs.set i ⟨(a : Int), (rd_T110 zs i).f1, (rd_T110 zs i).f2⟩) i).f2⟩) i).f1, ((a + 2 : Nat) : Int)⟩) (by omega) (by simp only [List.length_set]; exact hz) (by omega)
      refine ⟨r, Ev.unroll ?_, by rw [h1]; congr 1; omega, h2⟩
      simp only [laws_markPickS.l0, hz, some_bind, Int.toNat_natCast]
      simp only [if_pos (show (i : Int) < (n : Int) by omega), if_pos (show (0 : Int) ≤ i by omega), wrap_succ (show i < n by omega) (show n ≤ BIG by unfold BIG; omega), w1, w2, w3]
      exact hr
theorem markPickS_f (l : List S110) (a : Nat) (hn : l.length ≤ 1048576) (ha : a ≤ 1048576 * 8) : ∃ r : Int × List S110, Ev (fun k => laws_markPickS.f k l (a : Int)) r ∧ r.1 = ((a + 3 * l.length : Nat) : Int) ∧ r.2.length = l.length := by
  exact markPickS_l0 l.length hn l.length 0 a l (by omega) rfl (by omega)

/-! #### HasInt -/
theorem spec_l6Among_l0 (xs : List Int) (x : Int) (hn : xs.length ≤ BIG) : ∀ (d i : Nat), i + d = xs.length → Ev (fun k => spec_l6Among.l0 k xs x i) ((xs.drop i).contains x)
  | 0, i, h => Ev.unroll (by
      simp only [spec_l6Among.l0]
      simp only [if_neg (show ¬ (i : Int) < xs.length by omega)]
      exact Ev.fin (by rw [drop_end (by omega)]; rfl))
  | d + 1, i, h => Ev.unroll (by
      have hi : i < xs.length := by omega
      simp only [spec_l6Among.l0]
      simp only [if_pos (show (i : Int) < xs.length by omega), if_pos (show (0 : Int) ≤ i by omega), wrap_succ hi hn, rd_nat hi]
      rw [drop_cons hi, List.contains_cons]
      by_cases h1 : xs[i] = x
      · simp only [if_pos h1]
        exact Ev.fin (by rw [h1]; simp)
      · simp only [if_neg h1]
        rw [show (x == xs[i]) = false by simpa using fun e => h1 e.symm, Bool.false_or]
        exact spec_l6Among_l0 xs x hn d (i + 1) (by omega))
theorem spec_l6Among_f (xs : List Int) (x : Int) (hn : xs.length ≤ BIG) : Ev (fun k => spec_l6Among.f k xs x) (xs.contains x) := spec_l6Among_l0 xs x hn xs.length 0 (by omega)
theorem impl_hasInt_l0 (xs : List Int) (x : Int) (hn : xs.length ≤ BIG) : ∀ (d i : Nat), i + d = xs.length → Ev (fun k => impl_hasInt.l0 k x xs xs.length i) ((xs.drop i).contains x)
  | 0, i, h => Ev.unroll (by
      simp only [impl_hasInt.l0]
      simp only [if_neg (show ¬ (i : Int) < xs.length by omega)]
      exact Ev.fin (by rw [drop_end (by omega)]; rfl))
  | d + 1, i, h => Ev.unroll (by
      have hi : i < xs.length := by omega
      simp only [impl_hasInt.l0]
      simp only [if_pos (show (i : Int) < xs.length by omega), if_pos (show (0 : Int) ≤ i by omega), wrap_succ hi hn, rd_nat hi]
      rw [drop_cons hi, List.contains_cons]
      by_cases h1 : xs[i] = x
      · simp only [if_pos h1]
        exact Ev.fin (by rw [h1]; simp)
      · simp only [if_neg h1]
        rw [show (x == xs[i]) = false by simpa using fun e => h1 e.symm, Bool.false_or]
        exact impl_hasInt_l0 xs x hn d (i + 1) (by omega))
theorem impl_hasInt_f (xs : List Int) (x : Int) (hn : xs.length ≤ BIG) : Ev (fun k => impl_hasInt.f k xs x) (xs.contains x) := impl_hasInt_l0 xs x hn xs.length 0 (by omega)

/-! #### PodsOf -/
def podsStep (acc : List Int) (p : S110) : List Int := if acc.contains p.f0 then acc else acc ++ [p.f0]
def podsOf (xs : List S110) : List Int := xs.foldl podsStep []
theorem podsStep_le (acc : List Int) (p : S110) : (podsStep acc p).length ≤ acc.length + 1 := by unfold podsStep; split <;> simp
theorem podsOf_le (xs : List S110) : ∀ acc : List Int, (xs.foldl podsStep acc).length ≤ acc.length + xs.length := by
  induction xs with
  | nil => intro acc; simp
  | cons x xs ih =>
    intro acc
    have h1 := ih (podsStep acc x)
    have h2 := podsStep_le acc x
    simp only [List.foldl_cons, List.length_cons]
    omega
theorem spec_PodsOf_l0 (xs : List S110) (hn : xs.length ≤ 1048576) : ∀ (d i : Nat) (acc : List Int), i + d = xs.length → acc.length ≤ i → Ev (fun k => spec_PodsOf.l0 k xs acc i) ((xs.drop i).foldl podsStep acc)
  | 0, i, acc, h, ha => Ev.unroll (by
      simp only [spec_PodsOf.l0]
      simp only [if_neg (show ¬ (i : Int) < xs.length by omega)]
      exact Ev.fin (by rw [drop_end (by omega)]; rfl))
  | d + 1, i, acc, h, ha => Ev.unroll (by
      have hi : i < xs.length := by omega
      simp only [spec_PodsOf.l0]
      simp only [if_pos (show (i : Int) < xs.length by omega), if_pos (show (0 : Int) ≤ i by omega), wrap_succ hi (show _ ≤ BIG by unfold BIG; omega), rd_T110, Int.toNat_natCast, getD_at hi]
      rw [drop_cons hi, List.foldl_cons]
      refine Ev.bind (spec_l6Among_f acc _ (by unfold BIG; omega)) ?_
      by_cases h1 : acc.contains xs[i].f0 = true
      · simp only [if_pos h1]
        rw [show podsStep acc xs[i] = acc by unfold podsStep; rw [if_pos h1]]
        exact spec_PodsOf_l0 xs hn d (i + 1) acc (by omega) (by omega)
      · simp only [if_neg h1, if_pos (show acc.length < 17592186044416 by omega)]
        rw [show podsStep acc xs[i] = acc ++ [xs[i].f0] by unfold podsStep; rw [if_neg h1]]
        exact spec_PodsOf_l0 xs hn d (i + 1) _ (by omega) (by simp; omega))
theorem impl_PodsOf_l0 (xs : List S110) (hn : xs.length ≤ 1048576) : ∀ (d i : Nat) (acc : List Int), i + d = xs.length → acc.length ≤ i → Ev (fun k => impl_PodsOf.l0 k acc xs xs.length i) ((xs.drop i).foldl podsStep acc)
  | 0, i, acc, h, ha => Ev.unroll (by
      simp only [impl_PodsOf.l0]
      simp only [if_neg (show ¬ (i : Int) < xs.length by omega)]
      exact Ev.fin (by rw [drop_end (by omega)]; rfl))
  | d + 1, i, acc, h, ha => Ev.unroll (by
      have hi : i < xs.length := by omega
      simp only [impl_PodsOf.l0]
      simp only [if_pos (show (i : Int) < xs.length by omega), if_pos (show (0 : Int) ≤ i by omega), wrap_succ hi (show _ ≤ BIG by unfold BIG; omega), rd_T110, Int.toNat_natCast, getD_at hi]
      rw [drop_cons hi, List.foldl_cons]
      refine Ev.bind (impl_hasInt_f acc _ (by unfold BIG; omega)) ?_
      by_cases h1 : acc.contains xs[i].f0 = true
      · simp only [if_pos h1]
        rw [show podsStep acc xs[i] = acc by unfold podsStep; rw [if_pos h1]]
        exact impl_PodsOf_l0 xs hn d (i + 1) acc (by omega) (by omega)
      · simp only [if_neg h1, if_pos (show acc.length < 17592186044416 by omega)]
        rw [show podsStep acc xs[i] = acc ++ [xs[i].f0] by unfold podsStep; rw [if_neg h1]]
        exact impl_PodsOf_l0 xs hn d (i + 1) _ (by omega) (by simp; omega))
theorem spec_PodsOf_f (xs : List S110) (hn : xs.length ≤ 1048576) : Ev (fun k => spec_PodsOf.f k xs) (podsOf xs) := spec_PodsOf_l0 xs hn xs.length 0 [] (by omega) (by simp)
theorem impl_PodsOf_f (xs : List S110) (hn : xs.length ≤ 1048576) : Ev (fun k => impl_PodsOf.f k xs) (podsOf xs) := impl_PodsOf_l0 xs hn xs.length 0 [] (by omega) (by simp)

/-! #### FnExactPodsOf -/
theorem FnExactPodsOf : ∀ (l0 : List (S112)), (l0.length ≤ 9223372036854775807 ∧ ∀ y0 ∈ l0, ((-9223372036854775808 ≤ y0.f0 ∧ y0.f0 ≤ 9223372036854775807) ∧ (-9223372036854775808 ≤ y0.f1 ∧ y0.f1 ≤ 9223372036854775807) ∧ (-9223372036854775808 ≤ y0.f2 ∧ y0.f2 ≤ 9223372036854775807))) → ∃ k, laws_FnExactPodsOf.f k l0 = some true := by
  intro l ⟨hl, _⟩
  refine Ev.rounds ?_
  unfold laws_FnExactPodsOf.f
  by_cases hb : (l.length : Int) ≤ 1048576
  · have hm : (l.map mkPick).length ≤ 1048576 := by rw [List.length_map]; omega
    have hB : (l.map mkPick).length ≤ BIG := by unfold BIG; omega
    have hp : (podsOf (l.map mkPick)).length ≤ 1048576 := by have := podsOf_le (l.map mkPick) []; unfold podsOf; simp at this ⊢; omega
    have hpB : (podsOf (l.map mkPick)).length ≤ BIG := by unfold BIG; omega
    obtain ⟨r, hr, hr1, _⟩ := markPickS_f (l.map mkPick) 1 hm (by omega)
    simp only [szPickS_f l _ hl (show (0 : Int) ≤ 1048576 by omega) (by omega), if_pos hb, some_bind, if_neg (show ¬ (1048576 - (l.length : Int)) < 0 by omega)]
    refine Ev.bind (toPickS_f l (by omega)) (Ev.bind (spec_PodsOf_f _ hm) (Ev.bind (toPickS_f l (by omega)) (Ev.bind (impl_PodsOf_f _ hm) (Ev.bind (eqIntS_f _ hpB) ?_))))
    simp only [if_true]
    refine Ev.bind (toPickS_f l (by omega)) (Ev.bind (eqPickS_f _ hB) ?_)
    simp only [if_true]
    refine Ev.bind hr ?_
    simp only [hr1, if_neg (show ¬ ((1 + 3 * (l.map mkPick).length : Nat) : Int) < 0 by omega)]
    refine Ev.bind (eqIntS_f _ hpB) (Ev.unroll ?_)
    simp only [laws_FnExactPodsOf.j0, Bool.not_true, Bool.false_eq_true, if_false]
    refine Ev.bind (markIntS_f _ 1 (by unfold BIG; omega)) (Ev.bind (heldIntS_f 1 _ (by unfold BIG; omega)) ?_)
    simp only [if_neg (show ¬ ((1 + (podsOf (l.map mkPick)).length : Nat) : Int) < 0 by omega), if_true]
    refine Ev.bind (toPickS_f l (by omega)) (Ev.bind (impl_PodsOf_f _ hm) (Ev.bind (eqIntS_f _ hpB) ?_))
    simp only [if_true]
    refine Ev.bind (heldIntS_f 1 _ (by unfold BIG; omega)) ?_
    simp only [if_neg (show ¬ ((1 + (podsOf (l.map mkPick)).length : Nat) : Int) < 0 by omega), if_true]
    exact Ev.now _
  · simp only [szPickS_f l _ hl (show (0 : Int) ≤ 1048576 by omega) (by omega), if_neg hb, some_bind]
    exact Ev.now _

end Go.Proofs.Ytjeonneegmhcdaa.Pure
