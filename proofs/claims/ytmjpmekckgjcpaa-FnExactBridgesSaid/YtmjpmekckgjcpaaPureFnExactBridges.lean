/- Proved here: the law FnExactBridges, over numbers and lists: for all arguments it returns true; no condition. -/
import Derived.Test.YtmjpmekckgjcpaaPFnExactBridgesx10
namespace Go.Proofs.Ytmjpmekckgjcpaa.Pure
open Go.RowKit Go.Proofs.Ytmjpmekckgjcpaa.PFnExactBridges Go.Proofs.YtmjpmekckgjcpaaW.PrintWords Go.Proofs.YtmjpmekckgjcpaaW.PrintLast
set_option linter.unusedVariables false
set_option linter.unusedSimpArgs false

/-! #### base -/
/-! Words of this session: rounds, whole numbers in their bounds, reading by index. -/
theorem Ev.unroll {α : Type} {g : Nat → Option α} {r : α} (h : Ev (fun k => g (k + 1)) r) : Ev g r := Ev.step (fun _ => rfl) h
theorem Ev.const {α : Type} {x : Option α} {r : α} (h : x = some r) : Ev (fun _ => x) r := ⟨0, fun _ _ => h⟩
theorem Ev.fin {α : Type} {r s : α} (h : r = s) : Ev (fun _ => some r) s := by rw [h]; exact Ev.now _
theorem wrap_id {x : Int} (h0 : -9223372036854775808 ≤ x) (h1 : x ≤ 9223372036854775807) : wrap64 x = x := by unfold wrap64; omega
/-- The bound of all lengths here. -/
abbrev BIG : Nat := 4611686018427387904
theorem wrap_succ {i n : Nat} (h : i < n) (hn : n ≤ BIG) : wrap64 ((i : Int) + 1) = ((i + 1 : Nat) : Int) := by unfold wrap64; unfold BIG at hn; omega
theorem wrap_pred {i n : Nat} (h : i < n) (h0 : 0 < i) (hn : n ≤ BIG) : wrap64 ((i : Int) - 1) = ((i - 1 : Nat) : Int) := by unfold wrap64; unfold BIG at hn; omega
theorem rd_nat {xs : List Int} {i : Nat} (h : i < xs.length) : rd xs (i : Int) = xs[i] := by unfold rd; simp [List.getD, h]
theorem getD_nat {α : Type} {xs : List α} {d : α} {i : Nat} (h : i < xs.length) : xs.getD (i : Int).toNat d = xs[i] := by simp [List.getD, h]
theorem getD_zero {α : Type} {xs : List α} {d : α} (h : 0 < xs.length) : xs.getD (0 : Int).toNat d = xs[0] := by simp [List.getD, h]
theorem drop_cons {α : Type} {xs : List α} {i : Nat} (h : i < xs.length) : xs.drop i = xs[i] :: xs.drop (i + 1) := List.drop_eq_getElem_cons h
theorem drop_end {α : Type} {xs : List α} {i : Nat} (h : xs.length ≤ i) : xs.drop i = [] := List.drop_of_length_le h
/-- A list filled from the front, by index. -/
theorem fill_step {α : Type} (ys zs : List α) (x : α) {i : Nat} (hi : i = ys.length) (hz : 0 < zs.length) : (ys ++ zs).set i x = (ys ++ [x]) ++ zs.drop 1 := by
  subst hi
  match zs, hz with
  | z :: zs, _ => simp
theorem set_id {α : Type} (xs : List α) (i : Nat) (h : i < xs.length) : xs.set i xs[i] = xs := by
  apply List.ext_getElem
  · simp
  · intro j h1 h2
    rw [List.getElem_set]
    split
    · rename_i e; subst e; rfl
    · rfl
theorem some_bind {α β : Type} (a : α) (f : α → Option β) : (some a).bind f = f a := rfl
theorem getD_at {α : Type} {xs : List α} {d : α} {i : Nat} (h : i < xs.length) : xs.getD i d = xs[i] := by simp [List.getD, h]
/-- All places from i on, below n. -/
def allFrom (n i : Nat) (p : Nat → Bool) : Bool := (List.range' i (n - i)).all p
theorem allFrom_end {n i : Nat} {p : Nat → Bool} (h : n ≤ i) : allFrom n i p = true := by
  unfold allFrom
  rw [show n - i = 0 by omega]; rfl
theorem allFrom_step {n i : Nat} {p : Nat → Bool} (h : i < n) : allFrom n i p = (p i && allFrom n (i + 1) p) := by
  unfold allFrom
  rw [show n - i = (n - (i + 1)) + 1 by omega, List.range'_succ, List.all_cons]
theorem allFrom_no {n i : Nat} {p : Nat → Bool} (h : i < n) (hp : p i = false) : allFrom n i p = false := by rw [allFrom_step h, hp, Bool.false_and]
theorem allFrom_yes {n i : Nat} {p : Nat → Bool} (h : i < n) (hp : p i = true) : allFrom n i p = allFrom n (i + 1) p := by rw [allFrom_step h, hp, Bool.true_and]
theorem allFrom_iff {n i : Nat} {p : Nat → Bool} : allFrom n i p = true ↔ ∀ j, i ≤ j → j < n → p j = true := by
  unfold allFrom
  rw [List.all_eq_true]
  constructor
  · intro h j h1 h2
    exact h j (by rw [List.mem_range'_1]; omega)
  · intro h j hj
    rw [List.mem_range'_1] at hj
    exact h j hj.1 (by omega)
theorem itd_pos {α : Type} {p : Prop} [Decidable p] (h : p) {a b : α} : (if decide p = true then a else b) = a := if_pos (decide_eq_true h)
theorem itd_neg {α : Type} {p : Prop} [Decidable p] (h : ¬ p) {a b : α} : (if decide p = true then a else b) = b := if_neg (by rw [decide_eq_false h]; decide)
/-- The places from i on, below n, that p holds of. -/
def filtFrom (n i : Nat) (p : Nat → Bool) : List Int := ((List.range' i (n - i)).filter p).map (fun j : Nat => (j : Int))
theorem filtFrom_end {n i : Nat} {p : Nat → Bool} (h : n ≤ i) : filtFrom n i p = [] := by
  unfold filtFrom
  rw [show n - i = 0 by omega]; rfl
theorem filtFrom_yes {n i : Nat} {p : Nat → Bool} (h : i < n) (hp : p i = true) : filtFrom n i p = (i : Int) :: filtFrom n (i + 1) p := by
  unfold filtFrom
  rw [show n - i = (n - (i + 1)) + 1 by omega, List.range'_succ, List.filter_cons, if_pos hp, List.map_cons]
theorem filtFrom_no {n i : Nat} {p : Nat → Bool} (h : i < n) (hp : p i = false) : filtFrom n i p = filtFrom n (i + 1) p := by
  unfold filtFrom
  rw [show n - i = (n - (i + 1)) + 1 by omega, List.range'_succ, List.filter_cons, if_neg (by rw [hp]; decide)]
theorem filtFrom_le {n i : Nat} {p : Nat → Bool} : (filtFrom n i p).length ≤ n - i := by
  unfold filtFrom
  rw [List.length_map]
  exact Nat.le_trans (List.length_filter_le _ _) (by simp)
theorem mem_filtFrom {n i : Nat} {p : Nat → Bool} {x : Int} : x ∈ filtFrom n i p ↔ ∃ j : Nat, i ≤ j ∧ j < n ∧ p j = true ∧ x = (j : Int) := by
  unfold filtFrom
  simp only [List.mem_map, List.mem_filter, List.mem_range'_1]
  constructor
  · rintro ⟨j, ⟨⟨h1, h2⟩, h3⟩, rfl⟩; exact ⟨j, h1, by omega, h3, rfl⟩
  · rintro ⟨j, h1, h2, h3, rfl⟩; exact ⟨j, ⟨⟨h1, by omega⟩, h3⟩, rfl⟩
theorem wrap_sc {i : Nat} (h : i < 9223372036854775807) : wrap64 ((i : Int) + 1) = ((i + 1 : Nat) : Int) := by unfold wrap64; omega
theorem rd_nat' {xs : List Int} {i : Nat} : rd xs (i : Int) = xs.getD i 0 := by unfold rd; rw [Int.toNat_natCast]
theorem getD_zero' {α : Type} {xs : List α} {d : α} : xs.getD (0 : Int).toNat d = xs.getD 0 d := rfl
theorem Bool.ite_tf (b : Bool) : (if b = true then true else false) = b := by cases b <;> rfl
theorem ev_ite {α : Type} {c : Prop} [Decidable c] {g h : Nat → Option α} {r s : α} (h1 : c → Ev g r) (h2 : ¬ c → Ev h s) : Ev (fun k => if c then g k else h k) (if c then r else s) := by
  by_cases hc : c
  · simp only [if_pos hc]; exact h1 hc
  · simp only [if_neg hc]; exact h2 hc
theorem Ev.ifp {α : Type} {c : Prop} [Decidable c] {g h : Nat → Option α} {r : α} (hc : c) (e : Ev g r) : Ev (fun k => if c then g k else h k) r := by simp only [if_pos hc]; exact e
theorem Ev.ifn {α : Type} {c : Prop} [Decidable c] {g h : Nat → Option α} {r : α} (hc : ¬ c) (e : Ev h r) : Ev (fun k => if c then g k else h k) r := by simp only [if_neg hc]; exact e
theorem ev_ite' {α : Type} {c : Prop} [Decidable c] {g h : Nat → Option α} {r : α} (h1 : c → Ev g r) (h2 : ¬ c → Ev h r) : Ev (fun k => if c then g k else h k) r := by
  by_cases hc : c
  · simp only [if_pos hc]; exact h1 hc
  · simp only [if_neg hc]; exact h2 hc

/-! #### Ints -/
theorem szIntS_f (l : List Int) (b : Int) (h : l.length ≤ 9223372036854775807) (h0 : 0 ≤ b) (h1 : b ≤ 1048576) : laws_szIntS.f l b = some (if (l.length : Int) ≤ b then b - (l.length : Int) else -1) := by
  unfold laws_szIntS.f
  rw [wrap_id (by omega) (by omega)]
  split <;> split <;> first | rfl | omega
theorem toIntS_l0 (xs : List Int) (hn : xs.length ≤ 1048576) : ∀ (d i : Nat) (ys zs : List Int), i + d = xs.length → ys.length = i → zs.length = d → ys = xs.take i → Ev (fun k => laws_toIntS.l0 k xs (ys ++ zs) i) xs
  | 0, i, ys, zs, h, hy, hz, e => Ev.unroll (by
      simp only [laws_toIntS.l0]
      simp only [if_neg (show ¬ (i : Int) < xs.length by omega)]
      obtain rfl := List.length_eq_zero_iff.1 hz
      rw [e, List.take_of_length_le (by omega), List.append_nil]
      exact Ev.now _)
  | d + 1, i, ys, zs, h, hy, hz, e => Ev.unroll (by
      have hi : i < xs.length := by omega
      simp only [laws_toIntS.l0]
      simp only [if_pos (show (i : Int) < xs.length by omega), if_pos (show (0 : Int) ≤ i by omega), if_pos (show (i : Int) < (ys ++ zs).length by simp; omega), wrap_succ hi (by unfold BIG; omega), rd_nat hi, Int.toNat_natCast]
      rw [fill_step ys zs _ hy.symm (by omega)]
      exact toIntS_l0 xs hn d (i + 1) _ _ (by omega) (by simp; omega) (by simp; omega) (by rw [List.take_succ_eq_append_getElem hi, ← e]))
theorem toIntS_f (l : List Int) (h : l.length ≤ 1048576) : Ev (fun k => laws_toIntS.f k l) l := by
  unfold laws_toIntS.f
  simp only [if_pos (show (0 : Int) ≤ l.length by omega), if_pos (show (l.length : Int).toNat ≤ 35184372088832 by omega)]
  rw [Int.toNat_natCast]
  exact toIntS_l0 l h l.length 0 [] _ (by omega) rfl (by simp) rfl

/-! #### EqInts -/
theorem eqIntS_l0 (xs : List Int) (hn : xs.length ≤ BIG) : ∀ (d i : Nat), i + d = xs.length → Ev (fun k => laws_eqIntS.l0 k xs xs i) true
  | 0, i, h => Ev.unroll (by
      simp only [laws_eqIntS.l0]
      simp only [if_neg (show ¬ (i : Int) < xs.length by omega)]
      exact Ev.now _)
  | d + 1, i, h => Ev.unroll (by
      have hi : i < xs.length := by omega
      simp only [laws_eqIntS.l0]
      simp only [if_pos (show (i : Int) < xs.length by omega), if_pos (show (0 : Int) ≤ i by omega), wrap_succ hi hn, if_true]
      exact eqIntS_l0 xs hn d (i + 1) (by omega))
theorem eqIntS_f (l : List Int) (h : l.length ≤ BIG) : Ev (fun k => laws_eqIntS.f k l l) true := by
  unfold laws_eqIntS.f
  simp only [if_true]
  exact eqIntS_l0 l h l.length 0 (by omega)

/-! #### FloorArg -/
theorem szFloor_f (w h : Int) (l : List Int) (b : Int) (hl : l.length ≤ 9223372036854775807) (h0 : 0 ≤ b) (h1 : b ≤ 1048576) : laws_szFloor.f w h l b = some (if (l.length : Int) ≤ b then b - (l.length : Int) else -1) := by
  unfold laws_szFloor.f
  rw [szIntS_f l b hl h0 h1, some_bind]
  split <;> split <;> first | rfl | omega
theorem toFloor_f (w h : Int) (l : List Int) (hl : l.length ≤ 1048576) : Ev (fun k => laws_toFloor.f k w h l) (w, h, l) := by
  unfold laws_toFloor.f
  exact Ev.bind (toIntS_f l hl) (Ev.now _)
theorem eqFloor_f (w h : Int) (l : List Int) (hl : l.length ≤ BIG) : Ev (fun k => laws_eqFloor.f k w h l w h l) true := by
  unfold laws_eqFloor.f
  simp only [if_true]
  exact Ev.bind (eqIntS_f l hl) (Ev.now _)

/-! #### Marks -/
/-- a, a + 1, .. : n of them. -/
def marksFrom (a n : Nat) : List Int := (List.range' a n).map (fun j : Nat => (j : Int))
theorem marksFrom_length (a n : Nat) : (marksFrom a n).length = n := by unfold marksFrom; simp
theorem marksFrom_succ (a n : Nat) : marksFrom a (n + 1) = marksFrom a n ++ [((a + n : Nat) : Int)] := by
  unfold marksFrom
  rw [List.range'_1_concat, List.map_append]; rfl
theorem marksFrom_getD (a n i : Nat) (h : i < n) : (marksFrom a n).getD i 0 = ((a + i : Nat) : Int) := by
  rw [getD_at (by rw [marksFrom_length]; exact h)]
  unfold marksFrom
  simp
theorem markIntS_l0 (a n : Nat) (hn : a + n ≤ BIG) : ∀ (d i : Nat) (zs : List Int), i + d = n → zs.length = d → Ev (fun k => laws_markIntS.l0 k (marksFrom a i ++ zs) ((a + i : Nat) : Int) i) (((a + n : Nat) : Int), marksFrom a n)
  | 0, i, zs, h, hz => Ev.unroll (by
      obtain rfl := List.length_eq_zero_iff.1 hz
      obtain rfl : i = n := by omega
      simp only [laws_markIntS.l0, List.append_nil, marksFrom_length, Int.lt_irrefl, if_false]
      exact Ev.now _)
  | d + 1, i, zs, h, hz => Ev.unroll (by
      have hl : (marksFrom a i ++ zs).length = n := by rw [List.length_append, marksFrom_length]; omega
      simp only [laws_markIntS.l0, hl]
      simp only [if_pos (show (i : Int) < (n : Int) by omega), if_pos (show (0 : Int) ≤ i by omega), wrap_succ (show i < n by omega) (by omega), wrap_succ (show a + i < a + n by omega) hn, Int.toNat_natCast]
      rw [fill_step (marksFrom a i) zs _ (marksFrom_length a i).symm (by omega), ← marksFrom_succ, Nat.add_assoc]
      exact markIntS_l0 a n hn d (i + 1) _ (by omega) (by simp; omega))
theorem markIntS_f (l : List Int) (a : Nat) (hn : a + l.length ≤ BIG) : Ev (fun k => laws_markIntS.f k l (a : Int)) (((a + l.length : Nat) : Int), marksFrom a l.length) :=
  markIntS_l0 a l.length hn l.length 0 l (by omega) rfl
/-! #### MarkFloor -/
theorem markFloor_f (w h : Int) (l : List Int) (a : Nat) (hn : a + l.length ≤ BIG) : Ev (fun k => laws_markFloor.f k w h l (a : Int)) (((a + l.length : Nat) : Int), marksFrom a l.length) := by
  unfold laws_markFloor.f
  exact Ev.bind (markIntS_f l a hn) (Ev.now _)

/-! #### Pairs -/
/-- a and a + 1, a + 2 and a + 3, .. : n pairs. -/
def pairsFrom (a n : Nat) : List S111 := (List.range n).map (fun j : Nat => (⟨((a + 2 * j : Nat) : Int), ((a + 2 * j + 1 : Nat) : Int)⟩ : S111))
theorem pairsFrom_length (a n : Nat) : (pairsFrom a n).length = n := by unfold pairsFrom; simp
theorem pairsFrom_succ (a n : Nat) : pairsFrom a (n + 1) = pairsFrom a n ++ [(⟨((a + 2 * n : Nat) : Int), ((a + 2 * n + 1 : Nat) : Int)⟩ : S111)] := by
  unfold pairsFrom
  rw [List.range_succ, List.map_append]; rfl
theorem rd_pair_at {xs : List S111} {i : Nat} (h : i < xs.length) : rd_T111 xs (i : Int) = xs[i] := by
  unfold rd_T111; rw [Int.toNat_natCast]; exact getD_at h
theorem markSt (a i : Nat) (hb : a + 2 * i + 2 ≤ BIG) (zs : List S111) (hz : 0 < zs.length) : laws_markIntA2S.st (pairsFrom a i ++ zs) i ((a + 2 * i : Nat) : Int) = pairsFrom a (i + 1) ++ zs.drop 1 := by
  have hl : i < (pairsFrom a i ++ zs).length := by rw [List.length_append, pairsFrom_length]; omega
  unfold laws_markIntA2S.st
  have hs : ∀ y : S111, rd_T111 ((pairsFrom a i ++ zs).set i y) (i : Int) = y := fun y => by rw [rd_pair_at (by rw [List.length_set]; exact hl), List.getElem_set_self]
  rw [Int.toNat_natCast, hs, List.set_set]
  rw [fill_step (pairsFrom a i) zs _ (pairsFrom_length a i).symm hz, pairsFrom_succ]
  have e : wrap64 (((a + 2 * i : Nat) : Int) + 1) = ((a + 2 * i + 1 : Nat) : Int) := wrap_sc (by unfold BIG at hb; omega)
  rw [e]
theorem markPairs_l0 (a n : Nat) (hn : a + 2 * n ≤ BIG) : ∀ (d i : Nat) (zs : List S111), i + d = n → zs.length = d → Ev (fun k => laws_markIntA2S.l0 k (pairsFrom a i ++ zs) ((a + 2 * i : Nat) : Int) i) (((a + 2 * n : Nat) : Int), pairsFrom a n)
  | 0, i, zs, h, hz => Ev.unroll (by
      obtain rfl := List.length_eq_zero_iff.1 hz
      obtain rfl : i = n := by omega
      simp only [laws_markIntA2S.l0, List.append_nil, pairsFrom_length, Int.lt_irrefl, if_false]
      exact Ev.now _)
  | d + 1, i, zs, h, hz => Ev.unroll (by
      have hl : (pairsFrom a i ++ zs).length = n := by rw [List.length_append, pairsFrom_length]; omega
      have e1 : wrap64 (wrap64 (((a + 2 * i : Nat) : Int) + 1) + 1) = ((a + 2 * (i + 1) : Nat) : Int) := by
        rw [wrap_sc (i := a + 2 * i) (by unfold BIG at hn; omega), wrap_sc (i := a + 2 * i + 1) (by unfold BIG at hn; omega)]; rfl
      simp only [laws_markIntA2S.l0, hl, e1, wrap_succ (show i < n by omega) (show n ≤ BIG by omega), markSt a i (by omega) zs (by omega)]
      refine Ev.ifp (by omega) (Ev.ifp (by omega) ?_)
      exact markPairs_l0 a n hn d (i + 1) _ (by omega) (by simp; omega))
theorem markPairs_f (l : List S111) (hn : 1 + 2 * l.length ≤ BIG) : Ev (fun k => laws_markIntA2S.f k l 1) (((1 + 2 * l.length : Nat) : Int), pairsFrom 1 l.length) :=
  markPairs_l0 1 l.length hn l.length 0 l (by omega) rfl
theorem heldPairs_l0 (a n : Nat) (hn : a + 2 * n ≤ BIG) : ∀ (d i : Nat), i + d = n → Ev (fun k => laws_heldIntA2S.l0 k (pairsFrom a n) ((a + 2 * i : Nat) : Int) i) ((a + 2 * n : Nat) : Int)
  | 0, i, h => Ev.unroll (by
      obtain rfl : i = n := by omega
      simp only [laws_heldIntA2S.l0, pairsFrom_length, Int.lt_irrefl, if_false]
      exact Ev.now _)
  | d + 1, i, h => Ev.unroll (by
      have e0 : wrap64 (((a + 2 * i : Nat) : Int) + 1) = ((a + 2 * i + 1 : Nat) : Int) := wrap_sc (by unfold BIG at hn; omega)
      have e1 : wrap64 (((a + 2 * i + 1 : Nat) : Int) + 1) = ((a + 2 * (i + 1) : Nat) : Int) := by
        rw [wrap_sc (i := a + 2 * i + 1) (by unfold BIG at hn; omega)]; rfl
      have hr : rd_T111 (pairsFrom a n) (i : Int) = (⟨((a + 2 * i : Nat) : Int), ((a + 2 * i + 1 : Nat) : Int)⟩ : S111) := by
        rw [rd_pair_at (by rw [pairsFrom_length]; omega)]; unfold pairsFrom; simp
      simp only [laws_heldIntA2S.l0, pairsFrom_length, hr, e0, e1, wrap_succ (show i < n by omega) (show n ≤ BIG by omega)]
      exact Ev.ifp (by omega) (Ev.ifp (by omega) (Ev.ifp trivial (Ev.ifp trivial (heldPairs_l0 a n hn d (i + 1) (by omega))))))
theorem heldPairs_f (n : Nat) (hn : 1 + 2 * n ≤ BIG) : Ev (fun k => laws_heldIntA2S.f k (pairsFrom 1 n) 1) ((1 + 2 * n : Nat) : Int) :=
  heldPairs_l0 1 n hn n 0 (by omega)
theorem eqPairs_l0 (xs : List S111) (hn : xs.length ≤ BIG) : ∀ (d i : Nat), i + d = xs.length → Ev (fun k => laws_eqIntA2S.l0 k xs xs i) true
  | 0, i, h => Ev.unroll (by
      simp only [laws_eqIntA2S.l0]
      exact Ev.ifn (by omega) (Ev.now _))
  | d + 1, i, h => Ev.unroll (by
      have hi : i < xs.length := by omega
      simp only [laws_eqIntA2S.l0, laws_eqIntA2.f, if_true, some_bind, wrap_succ hi hn]
      exact Ev.ifp (by omega) (Ev.ifp (by omega) (Ev.ifp (by omega) (eqPairs_l0 xs hn d (i + 1) (by omega)))))
theorem eqPairs_f (l : List S111) (h : l.length ≤ BIG) : Ev (fun k => laws_eqIntA2S.f k l l) true := by
  unfold laws_eqIntA2S.f
  simp only [if_true]
  exact eqPairs_l0 l h l.length 0 (by omega)

/-! #### In -/
/-- Between two bounds. -/
def inB (a b c : Int) : Bool := decide (b ≤ a ∧ a ≤ c)
theorem inB_iff {a b c : Int} : inB a b c = true ↔ b ≤ a ∧ a ≤ c := by unfold inB; exact decide_eq_true_iff
theorem inB_no {a b c : Int} : inB a b c = false ↔ ¬ (b ≤ a ∧ a ≤ c) := by rw [← inB_iff]; simp
theorem impl_in_f (a b c : Int) : impl_in.f a b c = some (inB a b c) := by
  unfold impl_in.f inB
  by_cases h : b ≤ a <;> by_cases h2 : a ≤ c <;> simp [h, h2]
theorem spec_l1In_f (a b c : Int) : spec_l1In.f a b c = some (inB a b c) := by
  unfold spec_l1In.f inB
  by_cases h : b ≤ a <;> by_cases h2 : a ≤ c <;> simp [h, h2]

/-! #### Near -/
/-- The cells beside one: above, left, right, below. -/
def besideL (w h c : Int) : List Int :=
  (if c / w > 0 then [c - w] else []) ++ ((if c % w > 0 then [c - 1] else []) ++ ((if c % w < w - 1 then [c + 1] else []) ++ (if c / w < h - 1 then [c + w] else [])))
theorem besideL_le (w h c : Int) : (besideL w h c).length ≤ 4 := by
  unfold besideL
  split <;> split <;> split <;> split <;> simp
/-- A floor's bounds. -/
structure Fits (w h c : Int) : Prop where
  w1 : 1 ≤ w
  w2 : w ≤ 10
  h1 : 1 ≤ h
  h2 : h ≤ 10
  c1 : 0 ≤ c
  c2 : c < w * h
theorem Fits.area {w h c : Int} (f : Fits w h c) : w * h ≤ 100 := by
  have e2 : w * h ≤ 10 * 10 := Int.mul_le_mul f.w2 f.h2 (by have := f.h1; omega) (by omega)
  omega
theorem Fits.quot {w h c : Int} (f : Fits w h c) : 0 ≤ c / w ∧ c / w < h ∧ c = w * (c / w) + c % w ∧ 0 ≤ c % w ∧ c % w < w := by
  refine ⟨Int.ediv_nonneg f.c1 (by have := f.w1; omega), ?_, (Int.mul_ediv_add_emod c w).symm, Int.emod_nonneg _ (by have := f.w1; omega), Int.emod_lt_of_pos _ (by have := f.w1; omega)⟩
  apply Int.ediv_lt_of_lt_mul (by have := f.w1; omega)
  have := f.c2
  rw [Int.mul_comm]; exact this
theorem Fits.tdiv {w h c : Int} (f : Fits w h c) : wrap64 (Int.tdiv c w) = c / w := by
  have q := f.quot; have a := f.h2
  rw [Int.tdiv_eq_ediv_of_nonneg f.c1, wrap_id (by omega) (by omega)]
theorem Fits.tmod {w h c : Int} (f : Fits w h c) : Int.tmod c w = c % w := Int.tmod_eq_emod_of_nonneg f.c1
theorem mem_besideL {w h c x : Int} (f : Fits w h c) (hx : x ∈ besideL w h c) : 0 ≤ x ∧ x < w * h := by
  obtain ⟨q1, q2, q3, q4, q5⟩ := f.quot
  have hc := f.c2; have hw := f.w1
  unfold besideL at hx
  simp only [List.mem_append] at hx
  have up : c / w > 0 → w ≤ w * (c / w) := fun h => by have := Int.mul_le_mul_of_nonneg_left (show (1 : Int) ≤ c / w by omega) (show 0 ≤ w by omega); rw [Int.mul_one] at this; exact this
  have down : c / w < h - 1 → w * (c / w) + w * 2 ≤ w * h := fun hh => by
    have := Int.mul_le_mul_of_nonneg_left (show c / w + 2 ≤ h by omega) (show 0 ≤ w by omega)
    rw [Int.mul_add] at this; exact this
  have right : w * (c / w) + w ≤ w * h := by
    have := Int.mul_le_mul_of_nonneg_left (show c / w + 1 ≤ h by omega) (show 0 ≤ w by omega)
    rw [Int.mul_add, Int.mul_one] at this; exact this
  have hm0 : 0 ≤ w * (c / w) := Int.mul_nonneg (by omega) q1
  generalize w * (c / w) = m at *
  generalize w * h = n at *
  generalize c % w = r at *
  generalize c / w = q at *
  rcases hx with hx | hx | hx | hx <;> split at hx <;> simp only [List.mem_singleton, List.not_mem_nil] at hx
  · rename_i g; have := up g; omega
  · omega
  · omega
  · rename_i g; have := down g; omega
/-- The cells beside one where one may go. -/
def nearL (w h : Int) (cs : List Int) (c : Int) (loaded : Bool) : List Int := (besideL w h c).filter (fun x => !(rd cs x == 0) && !(loaded && rd cs x == 2))
theorem nearL_le (w h : Int) (cs : List Int) (c : Int) (loaded : Bool) : (nearL w h cs c loaded).length ≤ 4 := Nat.le_trans (List.length_filter_le _ _) (besideL_le w h c)
theorem mem_nearL {w h : Int} {cs : List Int} {c x : Int} {loaded : Bool} : x ∈ nearL w h cs c loaded ↔ x ∈ besideL w h c ∧ rd cs x ≠ 0 ∧ (loaded = true → rd cs x ≠ 2) := by
  unfold nearL
  rw [List.mem_filter]
  cases loaded <;> simp

/-! #### Sym -/
/-! Beside goes both ways. -/
theorem besideL_iff {w h c x : Int} : x ∈ besideL w h c ↔ (x = c - w ∧ 0 < c / w) ∨ (x = c - 1 ∧ 0 < c % w) ∨ (x = c + 1 ∧ c % w < w - 1) ∨ (x = c + w ∧ c / w < h - 1) := by
  unfold besideL
  simp only [List.mem_append]
  constructor
  · rintro (hx | hx | hx | hx) <;> split at hx <;> simp only [List.mem_singleton, List.not_mem_nil] at hx <;> simp_all
  · rintro (⟨rfl, hx⟩ | ⟨rfl, hx⟩ | ⟨rfl, hx⟩ | ⟨rfl, hx⟩)
    · exact Or.inl (by rw [if_pos hx]; simp)
    · exact Or.inr (Or.inl (by rw [if_pos hx]; simp))
    · exact Or.inr (Or.inr (Or.inl (by rw [if_pos hx]; simp)))
    · exact Or.inr (Or.inr (Or.inr (by rw [if_pos hx]; simp)))
theorem Fits.of_mem {w h c x : Int} (f : Fits w h c) (hx : x ∈ besideL w h c) : Fits w h x :=
  ⟨f.w1, f.w2, f.h1, f.h2, (mem_besideL f hx).1, (mem_besideL f hx).2⟩
theorem besideL_sym {w h c x : Int} (f : Fits w h c) (hx : x ∈ besideL w h c) : c ∈ besideL w h x := by
  have f' := f.of_mem hx
  obtain ⟨q1, q2, q3, q4, q5⟩ := f.quot
  have hw := f.w1
  rw [besideL_iff] at hx ⊢
  have u : ∀ q r : Int, r + w * q = x → 0 ≤ r → r < w → x / w = q ∧ x % w = r := fun q r h1 h2 h3 => (Int.ediv_emod_unique (by omega)).2 ⟨h1, h2, h3⟩
  rcases hx with ⟨e, hx⟩ | ⟨e, hx⟩ | ⟨e, hx⟩ | ⟨e, hx⟩
  · have := u (c / w - 1) (c % w) (by rw [Int.mul_sub, Int.mul_one]; omega) q4 q5
    exact Or.inr (Or.inr (Or.inr ⟨by omega, by omega⟩))
  · have := u (c / w) (c % w - 1) (by omega) (by omega) (by omega)
    exact Or.inr (Or.inr (Or.inl ⟨by omega, by omega⟩))
  · have := u (c / w) (c % w + 1) (by omega) (by omega) (by omega)
    exact Or.inr (Or.inl ⟨by omega, by omega⟩)
  · have := u (c / w + 1) (c % w) (by rw [Int.mul_add, Int.mul_one]; omega) q4 q5
    exact Or.inl ⟨by omega, by omega⟩
theorem not_mem_self {w h c : Int} (f : Fits w h c) : c ∉ besideL w h c := by
  intro hx
  rw [besideL_iff] at hx
  have := f.w1
  omega

/-! #### Bfs -/
/-! Breadth first: from a cell outward. -/
def relax (v : Int) : List Int → List Int → List Int → List Int × List Int
  | out, todo, [] => (out, todo)
  | out, todo, c :: l => if rd out c < 0 then relax v (out.set c.toNat v) (todo ++ [c]) l else relax v out todo l
def negs (out : List Int) : Nat := out.countP (fun x => decide (x < 0))
theorem rd_set {xs : List Int} {c : Int} {v : Int} (h0 : 0 ≤ c) (h1 : c < (xs.length : Int)) {i : Int} (hi : 0 ≤ i) : rd (xs.set c.toNat v) i = if i = c then v else rd xs i := by
  unfold rd
  by_cases e : i = c
  · subst e
    rw [if_pos rfl, getD_at (by rw [List.length_set]; omega), List.getElem_set_self]
  · rw [if_neg e, List.getD_eq_getElem?_getD, List.getD_eq_getElem?_getD, List.getElem?_set_ne (by omega)]
theorem negs_set {xs : List Int} {c : Int} {v : Int} (h1 : c.toNat < xs.length) (hn : rd xs c < 0) (hv : 0 ≤ v) : negs (xs.set c.toNat v) + 1 = negs xs := by
  unfold negs
  rw [List.countP_set h1]
  have e : xs[c.toNat] < 0 := by unfold rd at hn; rwa [getD_at h1] at hn
  have hp : 0 < xs.countP (fun x => decide (x < 0)) := List.countP_pos_iff.2 ⟨xs[c.toNat], List.getElem_mem h1, by simpa using e⟩
  simp only [decide_eq_true_eq, if_pos e, if_neg (show ¬ v < 0 by omega)]
  omega
structure Relaxed (v : Int) (out todo0 l out' todo' : List Int) : Prop where
  len : out'.length = out.length
  val : ∀ c : Int, 0 ≤ c → rd out' c = if rd out c < 0 ∧ c ∈ l then v else rd out c
  todo : ∃ new, todo' = todo0 ++ new ∧ ∀ c, c ∈ new ↔ c ∈ l ∧ rd out c < 0
  size : negs out' + todo'.length = negs out + todo0.length
theorem relax_spec (v : Int) (hv : 0 ≤ v) : ∀ (l out todo : List Int), (∀ c ∈ l, 0 ≤ c ∧ c < (out.length : Int)) → Relaxed v out todo l (relax v out todo l).1 (relax v out todo l).2
  | [], out, todo, _ => ⟨rfl, fun c _ => by simp [relax], ⟨[], by simp [relax]⟩, rfl⟩
  | c :: l, out, todo, h => by
    have hc := h c (by simp)
    unfold relax
    by_cases h1 : rd out c < 0
    · rw [if_pos h1]
      have ih := relax_spec v hv l (out.set c.toNat v) (todo ++ [c]) (fun x hx => by rw [List.length_set]; exact h x (by simp [hx]))
      obtain ⟨new, e1, e2⟩ := ih.todo
      refine ⟨by rw [ih.len, List.length_set], fun x hx => ?_, ⟨c :: new, by rw [e1]; simp, fun x => ?_⟩, ?_⟩
      · rw [ih.val x hx, rd_set hc.1 hc.2 hx]
        by_cases e : x = c
        · subst e; simp [h1, show ¬ v < 0 by omega]
        · simp [e]
      · rw [List.mem_cons, e2]
        by_cases hx : x = c
        · subst hx; simp [h1]
        · by_cases hm : x ∈ l
          · have hx0 := h x (by simp [hm])
            rw [rd_set hc.1 hc.2 hx0.1, if_neg hx]; simp [hx, hm]
          · simp [hx, hm]
      · have h2 := ih.size
        have h3 := negs_set (xs := out) (c := c) (v := v) (by omega) h1 hv
        simp only [List.length_append, List.length_cons, List.length_nil] at h2
        omega
    · rw [if_neg h1]
      have ih := relax_spec v hv l out todo (fun x hx => h x (by simp [hx]))
      obtain ⟨new, e1, e2⟩ := ih.todo
      refine ⟨ih.len, fun x hx => ?_, ⟨new, e1, fun x => ?_⟩, ih.size⟩
      · rw [ih.val x hx]
        by_cases e : x = c
        · subst e; simp [h1]
        · simp [e]
      · rw [e2]
        by_cases hx : x = c
        · subst hx; simp [h1]
        · simp [hx]
def bfs (nb : Int → List Int) (go : Int → Bool) : Nat → List Int → List Int → List Int
  | 0, out, _ => out
  | _ + 1, out, [] => out
  | k + 1, out, n :: t => if go n = true then bfs nb go k (relax (rd out n + 1) out t (nb n)).1 (relax (rd out n + 1) out t (nb n)).2 else bfs nb go k out t
/-- What breadth first keeps: m is how far the head is. -/
structure BInv (nb : Int → List Int) (go : Int → Bool) (dst : Int) (n : Nat) (m : Int) (out todo : List Int) : Prop where
  len : out.length = n
  m0 : 0 ≤ m
  low : ∀ c : Int, 0 ≤ c → c < n → -1 ≤ rd out c
  zero : rd out dst = 0
  only : ∀ c : Int, 0 ≤ c → c < n → rd out c = 0 → c = dst
  mem : ∀ c ∈ todo, 0 ≤ c ∧ c < (n : Int) ∧ m ≤ rd out c
  srt : todo.Pairwise (fun a b => rd out a ≤ rd out b)
  top : ∀ c : Int, 0 ≤ c → c < n → rd out c ≤ m + 1
  done : ∀ c : Int, 0 ≤ c → c < n → 0 ≤ rd out c → c ∉ todo → rd out c ≤ m ∧ (go c = true → ∀ v ∈ nb c, 0 ≤ rd out v ∧ rd out v ≤ rd out c + 1)
  pred : ∀ v : Int, 0 ≤ v → v < n → 0 < rd out v → ∃ u : Int, 0 ≤ u ∧ u < n ∧ go u = true ∧ v ∈ nb u ∧ rd out u = rd out v - 1
/-- What breadth first tells. -/
structure Bfs (nb : Int → List Int) (go : Int → Bool) (dst : Int) (n : Nat) (out : List Int) : Prop where
  len : out.length = n
  low : ∀ c : Int, 0 ≤ c → c < n → -1 ≤ rd out c
  zero : rd out dst = 0
  only : ∀ c : Int, 0 ≤ c → c < n → rd out c = 0 → c = dst
  next : ∀ c : Int, 0 ≤ c → c < n → 0 ≤ rd out c → go c = true → ∀ v ∈ nb c, 0 ≤ rd out v ∧ rd out v ≤ rd out c + 1
  pred : ∀ v : Int, 0 ≤ v → v < n → 0 < rd out v → ∃ u : Int, 0 ≤ u ∧ u < n ∧ go u = true ∧ v ∈ nb u ∧ rd out u = rd out v - 1
theorem bfs_inv {nb : Int → List Int} {go : Int → Bool} {dst : Int} {n : Nat} (hnb : ∀ c : Int, 0 ≤ c → c < n → ∀ v ∈ nb c, 0 ≤ v ∧ v < (n : Int)) (ht : 0 ≤ dst ∧ dst < (n : Int)) :
    ∀ (k : Nat) (m : Int) (out todo : List Int), negs out + todo.length < k → BInv nb go dst n m out todo → Bfs nb go dst n (bfs nb go k out todo)
  | 0, _, _, _, h, _ => by omega
  | k + 1, m, out, [], _, i => ⟨i.len, i.low, i.zero, i.only, fun c h0 h1 h2 h3 => (i.done c h0 h1 h2 (by simp)).2 h3, i.pred⟩
  | k + 1, m, out, x :: t, h, i => by
    obtain ⟨x0, x1, xm⟩ := i.mem x (by simp)
    have hs := List.pairwise_cons.1 i.srt
    have mm : ∀ c : Int, 0 ≤ c → c < n → 0 ≤ rd out c → c ∉ x :: t → rd out c ≤ rd out x := fun c h0 h1 h2 h3 => by have := (i.done c h0 h1 h2 h3).1; omega
    have hm := i.m0
    unfold bfs
    by_cases hg : go x = true
    · rw [if_pos hg]
      have r := relax_spec (rd out x + 1) (by omega) (nb x) out t (fun c hc => by rw [i.len]; exact hnb x x0 x1 c hc)
      generalize (relax (rd out x + 1) out t (nb x)).1 = o' at r ⊢
      generalize (relax (rd out x + 1) out t (nb x)).2 = t' at r ⊢
      obtain ⟨new, e1, e2⟩ := r.todo
      have hv := r.val
      have hnew : ∀ c ∈ new, 0 ≤ c ∧ c < (n : Int) ∧ rd o' c = rd out x + 1 := fun c hc => by
        have h3 := (e2 c).1 hc
        have h4 := hnb x x0 x1 c h3.1
        exact ⟨h4.1, h4.2, by rw [hv c h4.1, if_pos ⟨h3.2, h3.1⟩]⟩
      have hkeep : ∀ c : Int, 0 ≤ c → 0 ≤ rd out c → rd o' c = rd out c := fun c h0 h1 => by rw [hv c h0, if_neg (by omega)]
      have hmt : ∀ c ∈ t, 0 ≤ c ∧ c < (n : Int) ∧ rd out x ≤ rd out c ∧ rd o' c = rd out c := fun c hc => by
        have h3 := i.mem c (by simp [hc])
        exact ⟨h3.1, h3.2.1, hs.1 c hc, hkeep c h3.1 (by omega)⟩
      have hx' := hkeep x x0 (by omega)
      refine bfs_inv hnb ht k (rd out x) o' t' ?_ ⟨by rw [r.len, i.len], by omega, ?_, ?_, ?_, ?_, ?_, ?_, ?_, ?_⟩
      · have := r.size
        simp only [List.length_cons] at h
        omega
      · intro c h0 h1
        have := i.low c h0 h1
        rw [hv c h0]; split <;> omega
      · rw [hkeep dst ht.1 (by rw [i.zero]; omega), i.zero]
      · intro c h0 h1 h2
        rw [hv c h0] at h2
        split at h2
        · omega
        · exact i.only c h0 h1 h2
      · intro c hc
        rw [e1, List.mem_append] at hc
        rcases hc with hc | hc
        · have h3 := hmt c hc; exact ⟨h3.1, h3.2.1, by omega⟩
        · have h3 := hnew c hc; exact ⟨h3.1, h3.2.1, by omega⟩
      · rw [e1, List.pairwise_append]
        refine ⟨?_, ?_, ?_⟩
        · refine List.Pairwise.imp_of_mem ?_ hs.2
          intro a b ha hb hab
          rw [(hmt a ha).2.2.2, (hmt b hb).2.2.2]; exact hab
        · refine List.Pairwise.imp_of_mem (R := fun _ _ => True) ?_ (List.pairwise_of_forall (fun _ _ => trivial))
          intro a b ha hb _
          rw [(hnew a ha).2.2, (hnew b hb).2.2]; omega
        · intro a ha b hb
          have h3 := hmt a ha
          have h4 := i.top a h3.1 h3.2.1
          rw [h3.2.2.2, (hnew b hb).2.2]; omega
      · intro c h0 h1
        rw [hv c h0]
        split
        · omega
        · have := i.top c h0 h1; omega
      · intro c h0 h1 h2 h3
        rw [e1, List.mem_append] at h3
        by_cases hcx : c = x
        · subst hcx
          rw [hx']
          refine ⟨by omega, fun _ v hvn => ?_⟩
          have hr := hnb c h0 h1 v hvn
          rw [hv v hr.1]
          have h5 := i.top v hr.1 hr.2
          split
          · omega
          · rename_i hneg
            have : ¬ rd out v < 0 := fun hh => hneg ⟨hh, hvn⟩
            omega
        · by_cases hneg : rd out c < 0
          · by_cases hcn : c ∈ nb x
            · exact absurd (Or.inr ((e2 c).2 ⟨hcn, hneg⟩)) h3
            · rw [hv c h0, if_neg (fun hh => hcn hh.2)] at h2; omega
          · have hct : c ∉ x :: t := by
              intro hh
              rcases List.mem_cons.1 hh with hh | hh
              · exact hcx hh
              · exact h3 (Or.inl hh)
            have hd := i.done c h0 h1 (by omega) hct
            rw [hkeep c h0 (by omega)]
            refine ⟨by omega, fun hgo v hvn => ?_⟩
            have h6 := hd.2 hgo v hvn
            have hr := hnb c h0 h1 v hvn
            rw [hkeep v hr.1 h6.1]; exact h6
      · intro v h0 h1 h2
        rw [hv v h0] at h2 ⊢
        split at h2
        · rename_i hh
          exact ⟨x, x0, x1, hg, hh.2, by rw [hx', if_pos hh]; omega⟩
        · rename_i hh
          obtain ⟨u, u0, u1, ug, uv, ud⟩ := i.pred v h0 h1 h2
          exact ⟨u, u0, u1, ug, uv, by rw [if_neg hh, hkeep u u0 (by omega)]; exact ud⟩
    · rw [if_neg hg]
      refine bfs_inv hnb ht k (rd out x) out t ?_ ⟨i.len, by omega, i.low, i.zero, i.only, ?_, hs.2, ?_, ?_, i.pred⟩
      · simp only [List.length_cons] at h; omega
      · intro c hc
        have h3 := i.mem c (by simp [hc]); exact ⟨h3.1, h3.2.1, hs.1 c hc⟩
      · intro c h0 h1
        have := i.top c h0 h1; omega
      · intro c h0 h1 h2 h3
        by_cases hcx : c = x
        · subst hcx
          exact ⟨by omega, fun hh => absurd hh hg⟩
        · have hd := i.done c h0 h1 h2 (by simp [hcx, h3])
          exact ⟨by omega, hd.2⟩
/-- From one cell alone. -/
def bfsFrom (nb : Int → List Int) (go : Int → Bool) (n : Nat) (dst : Int) : List Int := bfs nb go (n + 2) ((List.replicate n (-1 : Int)).set dst.toNat 0) [dst]
theorem rd_replicate {n : Nat} {v c : Int} (h0 : 0 ≤ c) (h1 : c < n) : rd (List.replicate n v) c = v := by
  unfold rd; rw [getD_at (by rw [List.length_replicate]; omega)]; simp
theorem negs_le (l : List Int) : negs l ≤ l.length := List.countP_le_length
theorem bfs_start {nb : Int → List Int} {go : Int → Bool} {dst : Int} {n : Nat} (ht : 0 ≤ dst ∧ dst < (n : Int)) : BInv nb go dst n 0 ((List.replicate n (-1 : Int)).set dst.toNat 0) [dst] := by
  have hv : ∀ c : Int, 0 ≤ c → c < n → rd ((List.replicate n (-1 : Int)).set dst.toNat 0) c = if c = dst then 0 else -1 := fun c h0 h1 => by
    rw [rd_set ht.1 (by rw [List.length_replicate]; exact ht.2) h0, rd_replicate h0 h1]
  refine ⟨by simp, by omega, ?_, ?_, ?_, ?_, by simp, ?_, ?_, ?_⟩
  · intro c h0 h1; rw [hv c h0 h1]; split <;> omega
  · rw [hv dst ht.1 ht.2, if_pos rfl]
  · intro c h0 h1 h2; rw [hv c h0 h1] at h2; split at h2; assumption; omega
  · intro c hc; obtain rfl := List.mem_singleton.1 hc; exact ⟨ht.1, ht.2, by rw [hv c ht.1 ht.2, if_pos rfl]; omega⟩
  · intro c h0 h1; rw [hv c h0 h1]; split <;> omega
  · intro c h0 h1 h2 h3; rw [hv c h0 h1, if_neg (by simpa using h3)] at h2; omega
  · intro c h0 h1 h2; rw [hv c h0 h1] at h2; split at h2 <;> omega
theorem bfs_from {nb : Int → List Int} {go : Int → Bool} {dst : Int} {n : Nat} (hnb : ∀ c : Int, 0 ≤ c → c < n → ∀ v ∈ nb c, 0 ≤ v ∧ v < (n : Int)) (ht : 0 ≤ dst ∧ dst < (n : Int)) : Bfs nb go dst n (bfsFrom nb go n dst) := by
  refine bfs_inv hnb ht (n + 2) 0 _ _ ?_ (bfs_start ht)
  have := negs_le ((List.replicate n (-1 : Int)).set dst.toNat 0)
  simp only [List.length_set, List.length_replicate] at this
  simp only [List.length_cons, List.length_nil]
  omega

/-! #### Walk -/
/-! Walks: a list of steps, each from a cell that may be left. -/
/-- There is a walk of so many steps. -/
inductive Walk (nb : Int → List Int) (go : Int → Bool) (a : Int) : Nat → Int → Prop
  | nil : Walk nb go a 0 a
  | snoc {k : Nat} {b c : Int} (w : Walk nb go a k b) (g : go b = true) (h : c ∈ nb b) : Walk nb go a (k + 1) c
theorem Walk.cons {nb : Int → List Int} {go : Int → Bool} {a b : Int} (g : go a = true) (h : b ∈ nb a) : ∀ {k : Nat} {c : Int}, Walk nb go b k c → Walk nb go a (k + 1) c
  | _, _, .nil => .snoc .nil g h
  | _, _, .snoc w g' h' => .snoc (Walk.cons g h w) g' h'
theorem Walk.trans {nb : Int → List Int} {go : Int → Bool} {k : Nat} {a b : Int} (w : Walk nb go a k b) : ∀ {j : Nat} {c : Int}, Walk nb go b j c → Walk nb go a (k + j) c
  | _, _, .nil => w
  | _, _, .snoc w' g' h' => .snoc (Walk.trans w w') g' h'
theorem Walk.rev {nb : Int → List Int} {go : Int → Bool} (hs : ∀ a b : Int, b ∈ nb a → go a = true → go b = true ∧ a ∈ nb b) : ∀ {k : Nat} {a c : Int}, Walk nb go a k c → Walk nb go c k a
  | _, _, _, .nil => .nil
  | _, _, _, .snoc w g h => by
    have := hs _ _ h g
    exact Walk.cons this.1 this.2 (Walk.rev hs w)
theorem Walk.mono {nb nb' : Int → List Int} {go go' : Int → Bool} (h : ∀ a b : Int, go a = true → b ∈ nb a → go' a = true ∧ b ∈ nb' a) : ∀ {k : Nat} {a c : Int}, Walk nb go a k c → Walk nb' go' a k c
  | _, _, _, .nil => .nil
  | _, _, _, .snoc w g h' => .snoc (Walk.mono h w) (h _ _ g h').1 (h _ _ g h').2
/-- A walk stays where each step stays. -/
theorem Walk.stay {nb : Int → List Int} {go : Int → Bool} {P : Int → Prop} {a : Int} (ha : P a) (h : ∀ b c : Int, P b → go b = true → c ∈ nb b → P c) : ∀ {k : Nat} {c : Int}, Walk nb go a k c → P c
  | _, _, .nil => ha
  | _, _, .snoc w g h' => h _ _ (Walk.stay ha h w) g h'
def Reach (nb : Int → List Int) (go : Int → Bool) (a b : Int) : Prop := ∃ k, Walk nb go a k b
section
variable {nb : Int → List Int} {go : Int → Bool} {dst : Int} {n : Nat} {d : List Int}
theorem Bfs.walk (B : Bfs nb go dst n d) : ∀ (k : Nat) (c : Int), 0 ≤ c → c < n → rd d c = k → Walk nb go dst k c
  | 0, c, h0, h1, e => by
    have e2 : c = dst := B.only c h0 h1 e
    rw [e2]; exact .nil
  | k + 1, c, h0, h1, e => by
    obtain ⟨u, u0, u1, ug, uv, ue⟩ := B.pred c h0 h1 (by omega)
    exact .snoc (Bfs.walk B k u u0 u1 (by omega)) ug uv
theorem Bfs.least (B : Bfs nb go dst n d) (hnb : ∀ c : Int, 0 ≤ c → c < n → ∀ v ∈ nb c, 0 ≤ v ∧ v < (n : Int)) (ht : 0 ≤ dst ∧ dst < (n : Int)) {k : Nat} {c : Int} (w : Walk nb go dst k c) : 0 ≤ c ∧ c < (n : Int) ∧ 0 ≤ rd d c ∧ rd d c ≤ k := by
  induction w with
  | nil => exact ⟨ht.1, ht.2, by rw [B.zero]; omega, by rw [B.zero]; omega⟩
  | @snoc k b c w g h ih =>
    obtain ⟨i0, i1, i2, i3⟩ := ih
    have h1 := hnb _ i0 i1 _ h
    have h2 := B.next _ i0 i1 i2 g _ h
    exact ⟨h1.1, h1.2, h2.1, by omega⟩
theorem Bfs.reach (B : Bfs nb go dst n d) (hnb : ∀ c : Int, 0 ≤ c → c < n → ∀ v ∈ nb c, 0 ≤ v ∧ v < (n : Int)) (ht : 0 ≤ dst ∧ dst < (n : Int)) {c : Int} (h0 : 0 ≤ c) (h1 : c < n) : 0 ≤ rd d c ↔ Reach nb go dst c := by
  constructor
  · intro h
    exact ⟨(rd d c).toNat, B.walk _ c h0 h1 (by omega)⟩
  · rintro ⟨k, w⟩
    exact (B.least hnb ht w).2.2.1
/-- No farther than there are cells. -/
theorem Bfs.below (B : Bfs nb go dst n d) (ht : 0 ≤ dst ∧ dst < (n : Int)) : ∀ c : Int, 0 ≤ c → c < n → rd d c < n := by
  have key : ∀ (k : Nat) (c : Int), 0 ≤ c → c < n → rd d c = k → ∃ f : Nat → Int, ∀ j ≤ k, 0 ≤ f j ∧ f j < n ∧ rd d (f j) = j := by
    intro k
    induction k with
    | zero => intro c h0 h1 e; exact ⟨fun _ => c, fun j hj => ⟨h0, h1, by rw [show j = 0 by omega]; exact e⟩⟩
    | succ k ih =>
      intro c h0 h1 e
      obtain ⟨u, u0, u1, ug, uv, ue⟩ := B.pred c h0 h1 (by omega)
      obtain ⟨f, hf⟩ := ih u u0 u1 (by omega)
      refine ⟨fun j => if j = k + 1 then c else f j, fun j hj => ?_⟩
      by_cases hjk : j = k + 1
      · subst hjk; simp only [if_true]; exact ⟨h0, h1, e⟩
      · simp only [if_neg hjk]; exact hf j (by omega)
  intro c h0 h1
  by_cases hd : rd d c < 0
  · omega
  · obtain ⟨f, hf⟩ := key (rd d c).toNat c h0 h1 (by omega)
    -- the map j -> f j is one dst one from 0 .. k dst n
    have hnd : ((List.range ((rd d c).toNat + 1)).map fun j => (f j).toNat).Nodup := by
      refine List.pairwise_map.2 (List.Pairwise.imp_of_mem ?_ (List.nodup_range (n := (rd d c).toNat + 1)))
      intro i j hi hj hij e
      rw [List.mem_range] at hi hj
      apply hij
      have hi' := hf i (by omega)
      have hj' := hf j (by omega)
      have : f i = f j := by omega
      rw [this] at hi'
      omega
    have hsub : ((List.range ((rd d c).toNat + 1)).map fun j => (f j).toNat) ⊆ List.range n := by
      intro x hx
      rw [List.mem_map] at hx
      obtain ⟨j, hj, rfl⟩ := hx
      rw [List.mem_range] at hj ⊢
      have := hf j (by omega)
      omega
    have := hnd.length_le_of_subset hsub
    simp only [List.length_map, List.length_range] at this
    omega
end

/-! #### Cut -/
/-! Which cells a wall parts from each other. -/
theorem count_two {p : Int → Bool} : ∀ {l l' : List Int}, l'.length = l.length → (∀ i : Nat, i < l.length → p (l'.getD i 0) = true → p (l.getD i 0) = true) →
    l'.countP p ≤ l.countP p ∧ (l'.countP p = l.countP p → ∀ i : Nat, i < l.length → p (l.getD i 0) = true → p (l'.getD i 0) = true)
  | [], [], _, _ => ⟨Nat.le_refl _, fun _ i hi => by simp at hi⟩
  | x :: l, y :: l', hl, h => by
    have ih := count_two (p := p) (l := l) (l' := l') (by simpa using hl) (fun i hi hp => by have := h (i + 1) (by simpa using hi) (by simpa using hp); simpa using this)
    have h0 := h 0 (by simp) 
    simp only [List.getD_cons_zero] at h0
    rw [List.countP_cons, List.countP_cons]
    by_cases hx : p x = true <;> by_cases hy : p y = true
    · simp only [hx, hy, if_true]
      refine ⟨by omega, fun e i hi hp => ?_⟩
      cases i with
      | zero => simpa using hy
      | succ i => simpa using ih.2 (by omega) i (by simpa using hi) (by simpa using hp)
    · simp only [hx, hy, if_true]
      refine ⟨by simp; omega, fun e => ?_⟩
      simp at e
      omega
    · exact absurd (h0 hy) hx
    · simp only [hx, hy]
      refine ⟨by simpa using ih.1, fun e i hi hp => ?_⟩
      cases i with
      | zero => simp at hp; exact absurd hp hx
      | succ i => simpa using ih.2 (by simpa using e) i (by simpa using hi) (by simpa using hp)
/-- How many cells are reached. -/
def cnt (d : List Int) : Nat := d.countP (fun x => decide (0 ≤ x))
theorem cnt_le (d : List Int) : cnt d ≤ d.length := List.countP_le_length
theorem rd_getD {d : List Int} {i : Nat} : d.getD i 0 = rd d (i : Int) := by unfold rd; rw [Int.toNat_natCast]
theorem cnt_sub {d d' : List Int} (hl : d'.length = d.length) (h : ∀ c : Int, 0 ≤ c → c < d.length → 0 ≤ rd d' c → 0 ≤ rd d c) :
    cnt d' ≤ cnt d ∧ (cnt d' = cnt d → ∀ c : Int, 0 ≤ c → c < d.length → 0 ≤ rd d c → 0 ≤ rd d' c) := by
  have := count_two (p := fun x => decide (0 ≤ x)) hl (fun i hi hp => by
    simp only [decide_eq_true_eq, rd_getD] at hp ⊢
    exact h i (by omega) (by omega) hp)
  refine ⟨this.1, fun e c h0 h1 hc => ?_⟩
  have h2 := this.2 e c.toNat (by omega)
  simp only [decide_eq_true_eq, rd_getD, Int.toNat_of_nonneg h0] at h2
  exact h2 hc
theorem cnt_eq {d d' : List Int} (hl : d'.length = d.length) (h : ∀ c : Int, 0 ≤ c → c < d.length → (0 ≤ rd d' c ↔ 0 ≤ rd d c)) : cnt d' = cnt d :=
  Nat.le_antisymm (cnt_sub hl fun c h0 h1 => (h c h0 h1).1).1 (cnt_sub hl.symm fun c h0 h1 => (h c h0 (by omega)).2).1
theorem cnt_set {d : List Int} {a : Int} (h0 : 0 ≤ a) (h1 : a < d.length) (h : 0 ≤ rd d a) : cnt (d.set a.toNat (-1)) + 1 = cnt d := by
  unfold cnt
  have h2 : a.toNat < d.length := by omega
  rw [List.countP_set h2]
  have e : 0 ≤ d[a.toNat] := by unfold rd at h; rwa [getD_at h2] at h
  have hp : 0 < d.countP (fun x => decide (0 ≤ x)) := List.countP_pos_iff.2 ⟨d[a.toNat], List.getElem_mem h2, by simpa using e⟩
  simp only [decide_eq_true_eq, if_pos e, if_neg (show ¬ (0 : Int) ≤ -1 by omega)]
  omega
/-- All but a are reached, or not. -/
theorem cnt_but {d d' : List Int} {a : Int} (hl : d'.length = d.length) (h0 : 0 ≤ a) (h1 : a < d.length) (ha : 0 ≤ rd d a) (h : ∀ c : Int, 0 ≤ c → c < d.length → 0 ≤ rd d' c → 0 ≤ rd d c ∧ c ≠ a) :
    cnt d' + 1 ≤ cnt d ∧ (cnt d' + 1 = cnt d ↔ ∀ c : Int, 0 ≤ c → c < d.length → c ≠ a → 0 ≤ rd d c → 0 ≤ rd d' c) := by
  have hs := cnt_set h0 h1 ha
  have hr : ∀ c : Int, 0 ≤ c → rd (d.set a.toNat (-1)) c = if c = a then -1 else rd d c := fun c hc => rd_set h0 h1 hc
  have h3 := cnt_sub (d := d.set a.toNat (-1)) (d' := d') (by rw [hl, List.length_set]) (fun c c0 c1 c2 => by
    rw [List.length_set] at c1
    have := h c c0 c1 c2
    rw [hr c c0, if_neg this.2]; exact this.1)
  refine ⟨by omega, fun e c c0 c1 ca c2 => h3.2 (by omega) c c0 (by rw [List.length_set]; exact c1) (by rw [hr c c0, if_neg ca]; exact c2), fun hh => ?_⟩
  have : cnt d' = cnt (d.set a.toNat (-1)) := cnt_eq (by rw [hl, List.length_set]) fun c c0 c1 => by
    rw [List.length_set] at c1
    rw [hr c c0]
    by_cases ca : c = a
    · rw [if_pos ca]
      refine ⟨fun g => absurd ca (h c c0 c1 g).2, fun g => by omega⟩
    · rw [if_neg ca]
      exact ⟨fun g => (h c c0 c1 g).1, fun g => hh c c0 c1 ca g⟩
  omega
abbrev yes : Int → Bool := fun _ => true
theorem Reach.refl (nb : Int → List Int) (go : Int → Bool) (a : Int) : Reach nb go a a := ⟨0, .nil⟩
theorem Reach.trans {nb : Int → List Int} {go : Int → Bool} {a b c : Int} : Reach nb go a b → Reach nb go b c → Reach nb go a c := fun ⟨_, w⟩ ⟨_, w'⟩ => ⟨_, w.trans w'⟩
theorem Reach.one {nb : Int → List Int} {a b : Int} (h : b ∈ nb a) : Reach nb yes a b := ⟨1, .snoc .nil rfl h⟩
theorem Reach.mono {nb nb' : Int → List Int} {a c : Int} (h : ∀ a b : Int, b ∈ nb a → b ∈ nb' a) : Reach nb yes a c → Reach nb' yes a c := fun ⟨k, w⟩ => ⟨k, Walk.mono (fun a b _ h' => ⟨rfl, h a b h'⟩) w⟩
theorem Reach.stay {nb : Int → List Int} {P : Int → Prop} {a c : Int} (ha : P a) (h : ∀ b c : Int, P b → c ∈ nb b → P c) : Reach nb yes a c → P c := fun ⟨_, w⟩ => Walk.stay ha (fun b c hb _ hc => h b c hb hc) w
/-- Without a: who is reached from a is reached from one beside it. -/
theorem reach_past {nb nb' : Int → List Int} {a : Int} (hn : ∀ b c : Int, c ∈ nb b → c ≠ a → c ∈ nb' b) {c : Int} (h : Reach nb yes a c) : c = a ∨ ∃ n ∈ nb a, n ≠ a ∧ Reach nb' yes n c := by
  obtain ⟨k, w⟩ := h
  induction w with
  | nil => exact Or.inl rfl
  | @snoc k b c w g h ih =>
    by_cases hc : c = a
    · exact Or.inl hc
    · right
      rcases ih with rfl | ⟨n, n1, n2, n3⟩
      · exact ⟨c, h, hc, Reach.refl _ _ _⟩
      · exact ⟨n, n1, n2, n3.trans (Reach.one (hn _ _ h hc))⟩

/-! #### FloorOk -/
def kindsOk (cs : List Int) (i : Nat) : Bool := allFrom cs.length i (fun j => inB (cs.getD j 0) 0 4)
def floorOk (w h : Int) (cs : List Int) : Bool := inB w 1 10 && inB h 1 10 && decide ((cs.length : Int) = w * h) && kindsOk cs 0
theorem spec_FloorOk_l0 (w h : Int) (cs : List Int) (hn : cs.length ≤ BIG) : ∀ (d i : Nat), i + d = cs.length → Ev (fun k => spec_FloorOk.l0 k i w h cs) (kindsOk cs i)
  | 0, i, e => Ev.unroll (by
      simp only [spec_FloorOk.l0]
      simp only [if_neg (show ¬ (i : Int) < cs.length by omega)]
      exact Ev.fin (allFrom_end (by omega)).symm)
  | d + 1, i, e => Ev.unroll (by
      have hi : i < cs.length := by omega
      simp only [spec_FloorOk.l0, spec_l1In_f, some_bind]
      simp only [if_pos (show (i : Int) < cs.length by omega), if_pos (show (0 : Int) ≤ i by omega), wrap_succ hi hn, rd, Int.toNat_natCast]
      by_cases h1 : inB (cs.getD i 0) 0 4 = true
      · simp only [if_pos h1]
        rw [show kindsOk cs i = kindsOk cs (i + 1) from allFrom_yes hi h1]
        exact spec_FloorOk_l0 w h cs hn d (i + 1) (by omega)
      · simp only [if_neg h1]
        exact Ev.fin (allFrom_no hi (by simpa using h1)).symm)
theorem impl_FloorOk_l0 (cs : List Int) (hn : cs.length ≤ BIG) : ∀ (d i : Nat), i + d = cs.length → Ev (fun k => impl_FloorOk.l0 k cs cs.length i) (kindsOk cs i)
  | 0, i, e => Ev.unroll (by
      simp only [impl_FloorOk.l0]
      simp only [if_neg (show ¬ (i : Int) < cs.length by omega)]
      exact Ev.fin (allFrom_end (by omega)).symm)
  | d + 1, i, e => Ev.unroll (by
      have hi : i < cs.length := by omega
      simp only [impl_FloorOk.l0, impl_in_f, some_bind]
      simp only [if_pos (show (i : Int) < cs.length by omega), if_pos (show (0 : Int) ≤ i by omega), wrap_succ hi hn, rd, Int.toNat_natCast]
      by_cases h1 : inB (cs.getD i 0) 0 4 = true
      · simp only [if_pos h1]
        rw [show kindsOk cs i = kindsOk cs (i + 1) from allFrom_yes hi h1]
        exact impl_FloorOk_l0 cs hn d (i + 1) (by omega)
      · simp only [if_neg h1]
        exact Ev.fin (allFrom_no hi (by simpa using h1)).symm)
theorem inB_mul {w h : Int} (h1 : inB w 1 10 = true) (h2 : inB h 1 10 = true) : wrap64 (w * h) = w * h ∧ 1 ≤ w * h ∧ w * h ≤ 100 := by
  obtain ⟨a, b⟩ := inB_iff.1 h1
  obtain ⟨c, d⟩ := inB_iff.1 h2
  have e1 : 1 * 1 ≤ w * h := Int.mul_le_mul a c (by omega) (by omega)
  have e2 : w * h ≤ 10 * 10 := Int.mul_le_mul b d (by omega) (by omega)
  exact ⟨wrap_id (by omega) (by omega), by omega, by omega⟩
theorem spec_FloorOk_f (w h : Int) (cs : List Int) (hn : cs.length ≤ BIG) : Ev (fun k => spec_FloorOk.f k w h cs) (floorOk w h cs) := by
  unfold spec_FloorOk.f floorOk
  simp only [spec_l1In_f, some_bind]
  by_cases h1 : inB w 1 10 = true
  · simp only [if_pos h1]
    by_cases h2 : inB h 1 10 = true
    · simp only [if_pos h2, (inB_mul h1 h2).1]
      refine Ev.unroll ?_
      simp only [spec_FloorOk.j0]
      by_cases h3 : (cs.length : Int) = w * h
      · simp only [h3, bne_self_eq_false, Bool.false_eq_true, if_false, h1, h2, Bool.true_and, decide_true]
        exact spec_FloorOk_l0 w h cs hn cs.length 0 (by omega)
      · simp only [if_pos (show ((cs.length : Int) != w * h) = true by simpa using h3)]
        exact Ev.fin (by simp [h3])
    · simp only [if_neg h2]
      refine Ev.unroll ?_
      simp only [spec_FloorOk.j0, if_true]
      exact Ev.fin (by rw [Bool.not_eq_true] at h2; rw [h2]; simp)
  · simp only [if_neg h1]
    refine Ev.unroll ?_
    simp only [spec_FloorOk.j0, if_true]
    exact Ev.fin (by rw [Bool.not_eq_true] at h1; rw [h1]; simp)
theorem impl_FloorOk_f (w h : Int) (cs : List Int) (hn : cs.length ≤ BIG) : Ev (fun k => impl_FloorOk.f k w h cs) (floorOk w h cs) := by
  unfold impl_FloorOk.f floorOk
  simp only [impl_in_f, some_bind]
  by_cases h1 : inB w 1 10 = true
  · simp only [if_pos h1]
    by_cases h2 : inB h 1 10 = true
    · simp only [if_pos h2, (inB_mul h1 h2).1]
      refine Ev.unroll ?_
      simp only [impl_FloorOk.j0]
      by_cases h3 : (cs.length : Int) = w * h
      · simp only [h3, bne_self_eq_false, Bool.false_eq_true, if_false, h1, h2, Bool.true_and, decide_true]
        rw [← h3]
        exact impl_FloorOk_l0 cs hn cs.length 0 (by omega)
      · simp only [if_pos (show ((cs.length : Int) != w * h) = true by simpa using h3)]
        exact Ev.fin (by simp [h3])
    · simp only [if_neg h2]
      refine Ev.unroll ?_
      simp only [impl_FloorOk.j0, if_true]
      exact Ev.fin (by rw [Bool.not_eq_true] at h2; rw [h2]; simp)
  · simp only [if_neg h1]
    refine Ev.unroll ?_
    simp only [impl_FloorOk.j0, if_true]
    exact Ev.fin (by rw [Bool.not_eq_true] at h1; rw [h1]; simp)

/-! #### Turned0 -/
theorem floorOk_size {w h : Int} {cs : List Int} (h1 : floorOk w h cs = true) : 1 ≤ w ∧ w ≤ 10 ∧ 1 ≤ h ∧ h ≤ 10 ∧ (cs.length : Int) = w * h := by
  unfold floorOk at h1
  simp only [Bool.and_eq_true, inB_iff, decide_eq_true_eq] at h1
  exact ⟨h1.1.1.1.1, h1.1.1.1.2, h1.1.1.2.1, h1.1.1.2.2, h1.1.2⟩
theorem floorOk_area {w h : Int} {cs : List Int} (h1 : floorOk w h cs = true) : cs.length ≤ 100 := by
  obtain ⟨a1, a2, a3, a4, a5⟩ := floorOk_size h1
  have e2 : w * h ≤ 10 * 10 := Int.mul_le_mul a2 a4 (by omega) (by omega)
  omega

/-! #### Field -/
/-! The field of a cell: what breadth first tells. -/
def goF (cs : List Int) (dst : Int) (loaded : Bool) (n : Int) : Bool := decide (n = dst) || !(loaded && (rd cs n == 2))
def nbF (w h : Int) (cs : List Int) (c : Int) : List Int := nearL w h cs c false
def fieldL (w h : Int) (cs : List Int) (dst : Int) (loaded : Bool) : List Int := bfsFrom (nbF w h cs) (goF cs dst loaded) cs.length dst
theorem relax_app (v : Int) : ∀ (l out a t : List Int), relax v out (a ++ t) l = ((relax v out t l).1, a ++ (relax v out t l).2)
  | [], out, a, t => rfl
  | c :: l, out, a, t => by
    unfold relax
    split
    · rw [List.append_assoc]; exact relax_app v l _ a _
    · exact relax_app v l out a t
theorem nbF_in {w h : Int} {cs : List Int} (hf : floorOk w h cs = true) : ∀ c : Int, 0 ≤ c → c < (cs.length : Int) → ∀ v ∈ nbF w h cs c, 0 ≤ v ∧ v < (cs.length : Int) := by
  intro c h0 h1 v hv
  obtain ⟨a1, a2, a3, a4, a5⟩ := floorOk_size hf
  have f : Fits w h c := ⟨a1, a2, a3, a4, h0, by omega⟩
  rw [a5]
  exact mem_besideL f (mem_nearL.1 hv).1
theorem fitsAt {w h : Int} {cs : List Int} (hf : floorOk w h cs = true) {c : Int} (h0 : 0 ≤ c) (h1 : c < (cs.length : Int)) : Fits w h c ∧ (cs.length : Int) = w * h := by
  obtain ⟨a1, a2, a3, a4, a5⟩ := floorOk_size hf
  exact ⟨⟨a1, a2, a3, a4, h0, by omega⟩, a5⟩
/-- What holds of a round's beginning. -/
structure Round (n : Nat) (fuel : Nat) (out todo : List Int) : Prop where
  len : out.length = n
  mem : ∀ c ∈ todo, 0 ≤ c ∧ c < (n : Int) ∧ 0 ≤ rd out c
  top : ∀ c : Int, 0 ≤ c → c < n → rd out c ≤ 1000 - (fuel : Int)
  size : negs out + todo.length < fuel
theorem Round.next {n fuel : Nat} {out t : List Int} {x : Int} {l : List Int} (r : Round n (fuel + 1) out (x :: t)) (hl : ∀ c ∈ l, 0 ≤ c ∧ c < (n : Int)) : Round n fuel (relax (rd out x + 1) out t l).1 (relax (rd out x + 1) out t l).2 := by
  have hx := r.mem x (by simp)
  have hx2 := r.top x hx.1 hx.2.1
  have s := relax_spec (rd out x + 1) (by omega) l out t (fun c hc => by rw [r.len]; exact hl c hc)
  obtain ⟨new, e1, e2⟩ := s.todo
  refine ⟨by rw [s.len, r.len], fun c hc => ?_, fun c h0 h1 => ?_, ?_⟩
  · rw [e1, List.mem_append] at hc
    rcases hc with hc | hc
    · have := r.mem c (by simp [hc])
      refine ⟨this.1, this.2.1, ?_⟩
      rw [s.val c this.1]; split <;> omega
    · have h3 := (e2 c).1 hc
      have h4 := hl c h3.1
      refine ⟨h4.1, h4.2, ?_⟩
      rw [s.val c h4.1, if_pos ⟨h3.2, h3.1⟩]; omega
  · have := r.top c h0 h1
    rw [s.val c h0]; split <;> omega
  · have := s.size
    have h2 := r.size
    simp only [List.length_cons] at h2
    omega
theorem Round.skip {n fuel : Nat} {out t : List Int} {x : Int} (r : Round n (fuel + 1) out (x :: t)) : Round n fuel out t := by
  refine ⟨r.len, fun c hc => r.mem c (by simp [hc]), fun c h0 h1 => ?_, ?_⟩
  · have := r.top c h0 h1; omega
  · have h2 := r.size
    simp only [List.length_cons] at h2
    omega
theorem round_start {n : Nat} {dst : Int} (hn : n ≤ 100) (h0 : 0 ≤ dst) (h1 : dst < n) : Round n (n + 2) ((List.replicate n (-1 : Int)).set dst.toNat 0) [dst] := by
  have b := bfs_start (nb := fun _ => []) (go := fun _ => true) (dst := dst) (n := n) ⟨h0, h1⟩
  refine ⟨b.len, fun c hc => ?_, fun c c0 c1 => ?_, ?_⟩
  · have := b.mem c hc; exact ⟨this.1, this.2.1, by omega⟩
  · have := b.top c c0 c1; omega
  · have := negs_le ((List.replicate n (-1 : Int)).set dst.toNat 0)
    simp only [List.length_set, List.length_replicate] at this
    simp only [List.length_cons, List.length_nil]
    omega

/-! #### NearImpl -/
theorem impl_beside_f (w h : Int) (cs : List Int) (c : Int) (f : Fits w h c) : Ev (fun k => impl_beside.f k w h cs c) (besideL w h c) := by
  have a := f.area; have w1 := f.w1; have w2 := f.w2; have h1 := f.h1; have h2 := f.h2; have c1 := f.c1; have c2 := f.c2
  unfold impl_beside.f
  simp only [some_bind, if_neg (show ¬ w = 0 by omega), f.tdiv, f.tmod, wrap_id (show -9223372036854775808 ≤ c - w by omega) (by omega), List.length_nil, if_pos (show 0 < 17592186044416 by omega), List.nil_append]
  unfold besideL
  by_cases b1 : c / w > 0 <;> by_cases b2 : c % w > 0 <;> by_cases b3 : c % w < w - 1 <;> by_cases b4 : c / w < h - 1 <;>
    (simp only [b1, if_true, if_false]
     refine Ev.unroll ?_
     simp only [impl_beside.j0, b2, if_true, if_false, List.length_cons, List.length_nil, List.length_append, if_pos (show 0 < 17592186044416 by omega), if_pos (show 0 + 1 < 17592186044416 by omega), wrap_id (show -9223372036854775808 ≤ c - 1 by omega) (by omega)]
     refine Ev.unroll ?_
     simp only [impl_beside.j1, wrap_id (show -9223372036854775808 ≤ w - 1 by omega) (by omega), wrap_id (show -9223372036854775808 ≤ h - 1 by omega) (by omega), wrap_id (show -9223372036854775808 ≤ c + 1 by omega) (by omega), wrap_id (show -9223372036854775808 ≤ c + w by omega) (by omega),
       b3, b4, if_true, if_false, some_bind, List.length_cons, List.length_nil, List.length_append, if_pos (show 0 < 17592186044416 by omega), if_pos (show 0 + 1 < 17592186044416 by omega), if_pos (show 0 + 1 + 1 < 17592186044416 by omega), if_pos (show 0 + 1 + (0 + 1) < 17592186044416 by omega), if_pos (show 0 + 1 + 1 + (0 + 1) < 17592186044416 by omega), if_pos (show 0 + 1 + (0 + 1) + (0 + 1) < 17592186044416 by omega)]
     exact Ev.fin (by simp))
theorem impl_near_l0 (w h : Int) (cs : List Int) (loaded : Bool) (bs : List Int) (hb : bs.length ≤ 4) (hr : ∀ x ∈ bs, 0 ≤ x ∧ x < (cs.length : Int)) : ∀ (d i : Nat) (acc : List Int), i + d = bs.length → acc.length ≤ i →
    Ev (fun k => impl_near.l0 k loaded acc bs bs.length i w h cs) (acc ++ (bs.drop i).filter (fun x => !(rd cs x == 0) && !(loaded && rd cs x == 2)))
  | 0, i, acc, e, ha => Ev.unroll (by
      simp only [impl_near.l0]
      simp only [if_neg (show ¬ (i : Int) < bs.length by omega)]
      exact Ev.fin (by rw [drop_end (by omega)]; simp))
  | d + 1, i, acc, e, ha => Ev.unroll (by
      have hi : i < bs.length := by omega
      have hx := hr bs[i] (List.getElem_mem hi)
      simp only [impl_near.l0]
      simp only [if_pos (show (i : Int) < bs.length by omega), if_pos (show (0 : Int) ≤ i by omega), wrap_succ hi (show _ ≤ BIG by unfold BIG; omega), rd_nat hi, if_pos hx.1, if_pos hx.2, if_pos (show acc.length < 17592186044416 by omega)]
      rw [drop_cons hi, List.filter_cons]
      have ih := impl_near_l0 w h cs loaded bs hb hr d (i + 1)
      by_cases h0 : rd cs bs[i] = 0
      · simp only [if_pos h0]
        rw [if_neg (by rw [h0]; simp)]
        exact ih acc (by omega) (by omega)
      · simp only [if_neg h0]
        cases loaded with
        | false =>
          simp only [Bool.false_eq_true, if_false]
          rw [if_pos (by simpa using h0)]
          have h9 := ih (acc ++ [bs[i]]) (by omega) (by simp; omega)
          rw [List.append_assoc] at h9
          exact h9
        | true =>
          simp only [if_true]
          by_cases h2 : rd cs bs[i] = 2
          · simp only [if_pos h2]
            rw [if_neg (by rw [h2]; simp)]
            exact ih acc (by omega) (by omega)
          · simp only [if_neg h2]
            rw [if_pos (by simp [h0, h2])]
            have h9 := ih (acc ++ [bs[i]]) (by omega) (by simp; omega)
            rw [List.append_assoc] at h9
            exact h9)
theorem impl_near_f (w h : Int) (cs : List Int) (c : Int) (loaded : Bool) (f : Fits w h c) (hl : (cs.length : Int) = w * h) : Ev (fun k => impl_near.f k w h cs c loaded) (nearL w h cs c loaded) := by
  unfold impl_near.f
  refine Ev.bind (impl_beside_f w h cs c f) ?_
  exact impl_near_l0 w h cs loaded _ (besideL_le w h c) (fun x hx => by rw [hl]; exact mem_besideL f hx) (besideL w h c).length 0 [] (by omega) (by simp)

/-! #### NearSpec -/
theorem spec_l1Beside_f (w h : Int) (cs : List Int) (c : Int) (f : Fits w h c) : Ev (fun k => spec_l1Beside.f k w h cs c) (besideL w h c) := by
  have a := f.area; have w1 := f.w1; have w2 := f.w2; have h1 := f.h1; have h2 := f.h2; have c1 := f.c1; have c2 := f.c2
  unfold spec_l1Beside.f
  simp only [some_bind, if_neg (show ¬ w = 0 by omega), f.tdiv, f.tmod, wrap_id (show -9223372036854775808 ≤ c - w by omega) (by omega), List.length_nil, if_pos (show 0 < 17592186044416 by omega), List.nil_append]
  unfold besideL
  by_cases b1 : c / w > 0 <;> by_cases b2 : c % w > 0 <;> by_cases b3 : c % w < w - 1 <;> by_cases b4 : c / w < h - 1 <;>
    (simp only [b1, if_true, if_false]
     refine Ev.unroll ?_
     simp only [spec_l1Beside.j0, b2, if_true, if_false, List.length_cons, List.length_nil, List.length_append, if_pos (show 0 < 17592186044416 by omega), if_pos (show 0 + 1 < 17592186044416 by omega), wrap_id (show -9223372036854775808 ≤ c - 1 by omega) (by omega)]
     refine Ev.unroll ?_
     simp only [spec_l1Beside.j1, wrap_id (show -9223372036854775808 ≤ w - 1 by omega) (by omega), wrap_id (show -9223372036854775808 ≤ h - 1 by omega) (by omega), wrap_id (show -9223372036854775808 ≤ c + 1 by omega) (by omega), wrap_id (show -9223372036854775808 ≤ c + w by omega) (by omega),
       b3, b4, if_true, if_false, some_bind, List.length_cons, List.length_nil, List.length_append, if_pos (show 0 < 17592186044416 by omega), if_pos (show 0 + 1 < 17592186044416 by omega), if_pos (show 0 + 1 + 1 < 17592186044416 by omega), if_pos (show 0 + 1 + (0 + 1) < 17592186044416 by omega), if_pos (show 0 + 1 + 1 + (0 + 1) < 17592186044416 by omega), if_pos (show 0 + 1 + (0 + 1) + (0 + 1) < 17592186044416 by omega)]
     exact Ev.fin (by simp))
theorem spec_l1Near_l0 (w h : Int) (cs : List Int) (loaded : Bool) (bs : List Int) (hb : bs.length ≤ 4) (hr : ∀ x ∈ bs, 0 ≤ x ∧ x < (cs.length : Int)) : ∀ (d i : Nat) (acc : List Int), i + d = bs.length → acc.length ≤ i →
    Ev (fun k => spec_l1Near.l0 k loaded acc bs i w h cs) (acc ++ (bs.drop i).filter (fun x => !(rd cs x == 0) && !(loaded && rd cs x == 2)))
  | 0, i, acc, e, ha => Ev.unroll (by
      simp only [spec_l1Near.l0]
      simp only [if_neg (show ¬ (i : Int) < bs.length by omega)]
      exact Ev.fin (by rw [drop_end (by omega)]; simp))
  | d + 1, i, acc, e, ha => Ev.unroll (by
      have hi : i < bs.length := by omega
      have hx := hr bs[i] (List.getElem_mem hi)
      simp only [spec_l1Near.l0]
      simp only [if_pos (show (i : Int) < bs.length by omega), if_pos (show (0 : Int) ≤ i by omega), wrap_succ hi (show _ ≤ BIG by unfold BIG; omega), rd_nat hi, if_pos hx.1, if_pos hx.2, if_pos (show acc.length < 17592186044416 by omega)]
      rw [drop_cons hi, List.filter_cons]
      have ih := spec_l1Near_l0 w h cs loaded bs hb hr d (i + 1)
      by_cases h0 : rd cs bs[i] = 0
      · simp only [if_pos h0]
        rw [if_neg (by rw [h0]; simp)]
        exact ih acc (by omega) (by omega)
      · simp only [if_neg h0]
        cases loaded with
        | false =>
          simp only [Bool.false_eq_true, if_false]
          rw [if_pos (by simpa using h0)]
          have h9 := ih (acc ++ [bs[i]]) (by omega) (by simp; omega)
          rw [List.append_assoc] at h9
          exact h9
        | true =>
          simp only [if_true]
          by_cases h2 : rd cs bs[i] = 2
          · simp only [if_pos h2]
            rw [if_neg (by rw [h2]; simp)]
            exact ih acc (by omega) (by omega)
          · simp only [if_neg h2]
            rw [if_pos (by simp [h0, h2])]
            have h9 := ih (acc ++ [bs[i]]) (by omega) (by simp; omega)
            rw [List.append_assoc] at h9
            exact h9)
theorem spec_l1Near_f (w h : Int) (cs : List Int) (c : Int) (loaded : Bool) (f : Fits w h c) (hl : (cs.length : Int) = w * h) : Ev (fun k => spec_l1Near.f k w h cs c loaded) (nearL w h cs c loaded) := by
  unfold spec_l1Near.f
  refine Ev.bind (spec_l1Beside_f w h cs c f) ?_
  exact spec_l1Near_l0 w h cs loaded _ (besideL_le w h c) (fun x hx => by rw [hl]; exact mem_besideL f hx) (besideL w h c).length 0 [] (by omega) (by simp)

/-! #### Apart -/
/-! Which cells a cell has a way to without one step. -/
def stepB (a b c d : Int) : Bool := (decide (c = a) && decide (d = b)) || (decide (c = b) && decide (d = a))
def nbX (w h : Int) (cs : List Int) (a b c : Int) : List Int := (nbF w h cs c).filter (fun d => !stepB a b c d)
theorem rdB_set {xs : List Bool} {v : Int} (h0 : 0 ≤ v) (h1 : v < (xs.length : Int)) {i : Int} (hi : 0 ≤ i) : rdOf false (xs.set v.toNat true) i = if i = v then true else rdOf false xs i := by
  unfold rdOf
  rw [List.getD_eq_getElem?_getD, List.getD_eq_getElem?_getD, List.getElem?_set]
  by_cases h : i = v
  · subst h
    rw [if_pos rfl, if_pos rfl, if_pos (by omega)]; rfl
  · rw [if_neg (by omega), if_neg h]
def freeN (met : List Bool) : Nat := met.countP (fun x => !x)
theorem freeN_set {met : List Bool} {v : Int} (h0 : 0 ≤ v) (h1 : v < (met.length : Int)) (h : rdOf false met v ≠ true) : freeN (met.set v.toNat true) + 1 = freeN met := by
  unfold freeN
  have h2 : v.toNat < met.length := by omega
  unfold rdOf at h
  rw [getD_at h2] at h
  replace h : met[v.toNat] = false := by simpa using h
  have h4 : 0 < met.countP (fun x => !x) := List.countP_pos_iff.2 ⟨met[v.toNat], List.getElem_mem h2, by rw [h]; rfl⟩
  rw [List.countP_set h2, h]
  simp
  omega
/-- What is met so far, and which cells wait. x: the cell at hand (-1: none); of it the first j are looked at. -/
structure Mid (nb : Int → List Int) (a : Int) (n : Nat) (met : List Bool) (pend : List Int) (x : Int) (seen : List Int) : Prop where
  len : met.length = n
  sound : ∀ c : Int, 0 ≤ c → c < n → rdOf false met c = true → Reach nb yes a c
  start : rdOf false met a = true
  pin : ∀ c ∈ pend, 0 ≤ c ∧ c < n ∧ rdOf false met c = true
  closed : ∀ c : Int, 0 ≤ c → c < n → rdOf false met c = true → c ∈ pend ∨ c = x ∨ ∀ d ∈ nb c, rdOf false met d = true
  done : ∀ d ∈ nb x, d ∈ seen → rdOf false met d = true
theorem Mid.skip {nb : Int → List Int} {a : Int} {n : Nat} {met : List Bool} {pend : List Int} {x d : Int} {seen : List Int} (M : Mid nb a n met pend x seen) (h : d ∈ nb x → rdOf false met d = true) : Mid nb a n met pend x (seen ++ [d]) :=
  ⟨M.len, M.sound, M.start, M.pin, M.closed, fun e he hs => by
    rcases List.mem_append.1 hs with h1 | h1
    · exact M.done e he h1
    · rw [List.mem_singleton] at h1; subst h1; exact h he⟩
theorem Mid.push {nb : Int → List Int} {a : Int} {n : Nat} {met : List Bool} {pend : List Int} {x d : Int} {seen : List Int} (M : Mid nb a n met pend x seen) (a0 : 0 ≤ a) (x0 : 0 ≤ x) (x1 : x < n) (xm : rdOf false met x = true) (d0 : 0 ≤ d) (d1 : d < n) (hd : d ∈ nb x) (hin : ∀ c : Int, ∀ e ∈ nb c, 0 ≤ c → c < n → 0 ≤ e) : Mid nb a n (met.set d.toNat true) (pend ++ [d]) x (seen ++ [d]) := by
  have hl : d < (met.length : Int) := by rw [M.len]; exact d1
  have up : ∀ c : Int, 0 ≤ c → rdOf false met c = true → rdOf false (met.set d.toNat true) c = true := fun c c0 h => by
    rw [rdB_set d0 hl c0]; split
    · rfl
    · exact h
  have self : rdOf false (met.set d.toNat true) d = true := by rw [rdB_set d0 hl d0, if_pos rfl]
  refine ⟨by rw [List.length_set]; exact M.len, fun c c0 c1 h => ?_, up a a0 M.start, fun c hc => ?_, fun c c0 c1 h => ?_, fun e he hs => ?_⟩
  · rw [rdB_set d0 hl c0] at h
    by_cases hcd : c = d
    · subst hcd
      obtain ⟨k, wk⟩ := M.sound x x0 x1 xm
      exact ⟨k + 1, .snoc wk rfl hd⟩
    · rw [if_neg hcd] at h; exact M.sound c c0 c1 h
  · rcases List.mem_append.1 hc with h1 | h1
    · have := M.pin c h1
      exact ⟨this.1, this.2.1, up c this.1 this.2.2⟩
    · rw [List.mem_singleton] at h1; subst h1; exact ⟨d0, d1, self⟩
  · rw [rdB_set d0 hl c0] at h
    by_cases hcd : c = d
    · exact .inl (List.mem_append.2 (.inr (List.mem_singleton.2 hcd)))
    · rw [if_neg hcd] at h
      rcases M.closed c c0 c1 h with h1 | h1 | h1
      · exact .inl (List.mem_append.2 (.inl h1))
      · exact .inr (.inl h1)
      · exact .inr (.inr fun e he => up e (hin c e he c0 c1) (h1 e he))
  · rcases List.mem_append.1 hs with h1 | h1
    · exact up e (hin x e he x0 x1) (M.done e he h1)
    · rw [List.mem_singleton] at h1; subst h1; exact self
/-- All of x's are looked at. -/
theorem Mid.next {nb : Int → List Int} {a : Int} {n : Nat} {met : List Bool} {pend : List Int} {x : Int} {seen : List Int} (M : Mid nb a n met pend x seen) (h : ∀ d ∈ nb x, d ∈ seen) : Mid nb a n met pend (-1) [] :=
  ⟨M.len, M.sound, M.start, M.pin, fun c c0 c1 hc => by
    rcases M.closed c c0 c1 hc with h1 | h1 | h1
    · exact .inl h1
    · subst h1; exact .inr (.inr fun d hd => M.done d hd (h d hd))
    · exact .inr (.inr h1), fun d hd hs => by cases hs⟩
/-- One that waits is taken. -/
theorem Mid.take {nb : Int → List Int} {a : Int} {n : Nat} {met : List Bool} {x : Int} {rest : List Int} (M : Mid nb a n met (x :: rest) (-1) []) : Mid nb a n met rest x [] :=
  ⟨M.len, M.sound, M.start, fun c hc => M.pin c (List.mem_cons_of_mem _ hc), fun c c0 c1 hc => by
    rcases M.closed c c0 c1 hc with h1 | h1 | h1
    · rcases List.mem_cons.1 h1 with h2 | h2
      · exact .inr (.inl h2)
      · exact .inl h2
    · omega
    · exact .inr (.inr h1), fun d _ hs => by cases hs⟩
theorem Mid.fin {nb : Int → List Int} {a : Int} {n : Nat} {met : List Bool} (M : Mid nb a n met [] (-1) []) (a0 : 0 ≤ a) (a1 : a < n) (hin : ∀ c : Int, ∀ e ∈ nb c, 0 ≤ c → c < n → 0 ≤ e ∧ e < n) {b : Int} (b0 : 0 ≤ b) (b1 : b < n) : rdOf false met b = true ↔ Reach nb yes a b := by
  refine ⟨M.sound b b0 b1, fun hr => ?_⟩
  have := Reach.stay (P := fun c => (0 ≤ c ∧ c < n) ∧ rdOf false met c = true) ⟨⟨a0, a1⟩, M.start⟩ (fun c d hc hd => ?_) hr
  · exact this.2
  · refine ⟨hin c d hd hc.1.1 hc.1.2, ?_⟩
    rcases M.closed c hc.1.1 hc.1.2 hc.2 with h1 | h1 | h1
    · cases h1
    · have := hc.1.1; omega
    · exact h1 d hd

/-- Is there a way from a to b without the step between them? m tells. -/
def WayIs (w h : Int) (cs : List Int) (a b : Int) (m : Bool) : Prop := m = true ↔ Reach (nbX w h cs a b) yes a b
theorem nbX_in {w h : Int} {cs : List Int} (hf : floorOk w h cs = true) (a b : Int) : ∀ c : Int, ∀ e ∈ nbX w h cs a b c, 0 ≤ c → c < (cs.length : Int) → 0 ≤ e ∧ e < (cs.length : Int) := fun c e he c0 c1 => nbF_in hf c c0 c1 e (List.mem_filter.1 he).1
theorem mem_nbX {w h : Int} {cs : List Int} {a b c d : Int} (hd : d ∈ nbF w h cs c) : d ∈ nbX w h cs a b c ↔ stepB a b c d = false := by
  unfold nbX
  rw [List.mem_filter]
  simp [hd]
theorem take_at {l : List Int} {j : Nat} (hj : j < l.length) : l.take (j + 1) = l.take j ++ [l.getD j 0] := by rw [getD_at hj, List.take_succ_eq_append_getElem hj]
theorem impl_without_l1 (w h : Int) (cs : List Int) (hf : floorOk w h cs = true) (a b : Int) (a0 : 0 ≤ a) (x : Int) (x0 : 0 ≤ x) (x1 : x < (cs.length : Int)) (s : Nat) (hs : s ≤ cs.length)
    (K : ∀ met todo, Mid (nbX w h cs a b) a cs.length met todo (-1) [] → todo.length + freeN met ≤ s → ∃ m, Ev (fun k => impl_without.l0 k a b met todo w h cs) m ∧ WayIs w h cs a b m) :
    ∀ (d j : Nat) (met : List Bool) (todo : List Int), j + d = (nbF w h cs x).length → rdOf false met x = true → Mid (nbX w h cs a b) a cs.length met todo x ((nbF w h cs x).take j) → todo.length + freeN met ≤ s → ∃ m, Ev (fun k => impl_without.l1 k a b met todo x (nbF w h cs x) (nbF w h cs x).length j w h cs) m ∧ WayIs w h cs a b m
  | 0, j, met, todo, e, xm, M, hz => by
      obtain ⟨m, em, hm⟩ := K met todo (M.next (fun d hd => by rw [List.take_of_length_le (by omega)]; exact (List.mem_filter.1 hd).1)) hz
      refine ⟨m, Ev.unroll ?_, hm⟩
      simp only [impl_without.l1]
      exact Ev.ifn (by omega) em
  | d + 1, j, met, todo, e, xm, M, hz => by
      have ha := floorOk_area hf
      have hj : j < (nbF w h cs x).length := by omega
      have hjm : (nbF w h cs x).getD j 0 ∈ nbF w h cs x := by rw [getD_at hj]; exact List.getElem_mem hj
      have hr := nbF_in hf x x0 x1 _ hjm
      have hl4 : (nbF w h cs x).length ≤ 4 := nearL_le _ _ _ _ _
      have w1 : wrap64 ((j : Int) + 1) = ((j + 1 : Nat) : Int) := wrap_sc (by omega)
      have hml := M.len
      generalize hv : (nbF w h cs x).getD j 0 = v at hjm hr
      have ht : (nbF w h cs x).take (j + 1) = (nbF w h cs x).take j ++ [v] := by rw [take_at hj, hv]
      by_cases hp : rdOf false met v = true ∨ stepB a b x v = true
      · obtain ⟨m, em, hm⟩ := impl_without_l1 w h cs hf a b a0 x x0 x1 s hs K d (j + 1) met todo (by omega) xm (by rw [ht]; exact M.skip (fun h9 => hp.elim id (fun h8 => by rw [(mem_nbX hjm).1 h9] at h8; cases h8))) hz
        refine ⟨m, Ev.unroll ?_, hm⟩
        simp only [impl_without.l1, rd_nat', hv, w1]
        refine Ev.ifp (by omega) (Ev.ifp (by omega) (Ev.ifp (by omega) (Ev.ifp (by omega) (Ev.ifp (by omega) ?_))))
        refine ev_ite' (fun _ => em) (fun g1 => ?_)
        have g2 : stepB a b x v = true := hp.resolve_left g1
        unfold stepB at g2
        simp only [Bool.or_eq_true, Bool.and_eq_true, decide_eq_true_eq] at g2
        refine ev_ite' (fun h1 => ev_ite' (fun h2 => em) (fun h2 => ev_ite' (fun h3 => ev_ite' (fun h4 => em) (fun h4 => ?_)) (fun h3 => ?_))) (fun h1 => ev_ite' (fun h3 => ev_ite' (fun h4 => em) (fun h4 => ?_)) (fun h3 => ?_))
        all_goals (exfalso; omega)
      · have g1 : ¬ rdOf false met v = true := fun q => hp (.inl q)
        have g2 : ¬ stepB a b x v = true := fun q => hp (.inr q)
        have hfn := freeN_set hr.1 (by rw [hml]; exact hr.2) g1
        have hvx : v ∈ nbX w h cs a b x := (mem_nbX hjm).2 (by simpa using g2)
        have hne : ¬ x = v := fun q => g1 (by rw [← q]; exact xm)
        obtain ⟨m, em, hm⟩ := impl_without_l1 w h cs hf a b a0 x x0 x1 s hs K d (j + 1) (met.set v.toNat true) (todo ++ [v]) (by omega) (by rw [rdB_set hr.1 (by rw [hml]; exact hr.2) x0, if_neg hne]; exact xm) (by rw [ht]; exact M.push a0 x0 x1 xm hr.1 hr.2 hvx (fun c e he c0 c1 => (nbX_in hf a b c e he c0 c1).1)) (by rw [List.length_append]; simp only [List.length_cons, List.length_nil]; omega)
        refine ⟨m, Ev.unroll ?_, hm⟩
        simp only [impl_without.l1, rd_nat', hv, w1]
        refine Ev.ifp (by omega) (Ev.ifp (by omega) (Ev.ifp (by omega) (Ev.ifp (by omega) (Ev.ifp (by omega) (Ev.ifn g1 ?_)))))
        unfold stepB at g2
        simp only [Bool.or_eq_true, Bool.and_eq_true, decide_eq_true_eq] at g2
        have hb : todo.length < 17592186044416 := by omega
        refine ev_ite' (fun h1 => ev_ite' (fun h2 => ?_) (fun h2 => ev_ite' (fun h3 => ev_ite' (fun h4 => ?_) (fun h4 => Ev.ifp hb em)) (fun h3 => Ev.ifp hb em))) (fun h1 => ev_ite' (fun h3 => ev_ite' (fun h4 => ?_) (fun h4 => Ev.ifp hb em)) (fun h3 => Ev.ifp hb em))
        all_goals (exfalso; omega)
theorem impl_without_l0 (w h : Int) (cs : List Int) (hf : floorOk w h cs = true) (a b : Int) (a0 : 0 ≤ a) (a1 : a < (cs.length : Int)) (b0 : 0 ≤ b) (b1 : b < (cs.length : Int)) : ∀ (s : Nat) (met : List Bool) (todo : List Int), s ≤ cs.length → Mid (nbX w h cs a b) a cs.length met todo (-1) [] → todo.length + freeN met ≤ s → ∃ m, Ev (fun k => impl_without.l0 k a b met todo w h cs) m ∧ WayIs w h cs a b m
  | s, met, [], hs, M, hz => by
      refine ⟨rdOf false met b, Ev.unroll ?_, M.fin a0 a1 (nbX_in hf a b) b0 b1⟩
      have hml := M.len
      simp only [impl_without.l0]
      exact Ev.ifn (by simp) (Ev.ifp b0 (Ev.ifp (by omega) (Ev.now _)))
  | 0, met, x :: rest, hs, M, hz => by simp at hz
  | s + 1, met, x :: rest, hs, M, hz => by
      have hx := M.pin x (by simp)
      have fx := fitsAt hf hx.1 hx.2.1
      obtain ⟨m, em, hm⟩ := impl_without_l1 w h cs hf a b a0 x hx.1 hx.2.1 s (by omega) (fun met todo M2 h2 => impl_without_l0 w h cs hf a b a0 a1 b0 b1 s met todo (by omega) M2 h2) (nbF w h cs x).length 0 met rest (by omega) hx.2.2 (by rw [List.take_zero]; exact M.take) (by rw [List.length_cons] at hz; omega)
      refine ⟨m, Ev.unroll ?_, hm⟩
      simp only [impl_without.l0]
      refine Ev.ifp (by simp <;> omega) (Ev.ifp (by simp <;> omega) (Ev.ifp (by simp <;> omega) ?_))
      exact Ev.bind (impl_near_f w h cs x false fx.1 fx.2) em
theorem start_mid {w h : Int} {cs : List Int} {a b : Int} (a0 : 0 ≤ a) (a1 : a < (cs.length : Int)) : Mid (nbX w h cs a b) a cs.length ((List.replicate cs.length false).set a.toNat true) [a] (-1) [] ∧ 1 + freeN ((List.replicate cs.length false).set a.toNat true) ≤ cs.length := by
  have hl : a < ((List.replicate cs.length false).length : Int) := by rw [List.length_replicate]; exact a1
  have no : ∀ c : Int, rdOf false (List.replicate cs.length false) c = false := fun c => by
    unfold rdOf
    rw [List.getD_eq_getElem?_getD, List.getElem?_replicate]
    split <;> rfl
  have hr : ∀ c : Int, 0 ≤ c → rdOf false ((List.replicate cs.length false).set a.toNat true) c = true → c = a := fun c c0 hc => by
    rw [rdB_set a0 hl c0, no] at hc
    by_cases h : c = a
    · exact h
    · rw [if_neg h] at hc; cases hc
  have hs : rdOf false ((List.replicate cs.length false).set a.toNat true) a = true := by rw [rdB_set a0 hl a0, if_pos rfl]
  refine ⟨⟨by simp, fun c c0 c1 hc => by rw [hr c c0 hc]; exact Reach.refl _ _ _, hs, fun c hc => ?_, fun c c0 c1 hc => .inl (List.mem_singleton.2 (hr c c0 hc)), fun d _ h => by cases h⟩, ?_⟩
  · rw [List.mem_singleton] at hc; subst hc; exact ⟨a0, a1, hs⟩
  · have h1 := freeN_set a0 hl (show ¬ rdOf false (List.replicate cs.length false) a = true by rw [no]; decide)
    have h2 : freeN (List.replicate cs.length false) ≤ (List.replicate cs.length false).length := List.countP_le_length
    rw [List.length_replicate] at h2
    omega
theorem impl_without_f (w h : Int) (cs : List Int) (hf : floorOk w h cs = true) (a b : Int) (a0 : 0 ≤ a) (a1 : a < (cs.length : Int)) (b0 : 0 ≤ b) (b1 : b < (cs.length : Int)) : ∃ m, Ev (fun k => impl_without.f k w h cs a b) m ∧ WayIs w h cs a b m := by
  have ha := floorOk_area hf
  obtain ⟨M, hz⟩ := start_mid (w := w) (h := h) (b := b) a0 a1
  obtain ⟨m, em, hm⟩ := impl_without_l0 w h cs hf a b a0 a1 b0 b1 cs.length _ [a] (Nat.le_refl _) M (by simpa using hz)
  refine ⟨m, ?_, hm⟩
  unfold impl_without.f
  simp only [Int.toNat_natCast, some_bind, List.length_replicate]
  exact Ev.ifp (by omega) (Ev.ifp (by omega) (Ev.ifp a0 (Ev.ifp a1 em)))

theorem spec_l3Apart_l1 (w h : Int) (cs : List Int) (hf : floorOk w h cs = true) (a b : Int) (a0 : 0 ≤ a) (x : Int) (x0 : 0 ≤ x) (x1 : x < (cs.length : Int)) (i : Nat)
    (K : ∀ met q, Mid (nbX w h cs a b) a cs.length met (q.drop (i + 1)) (-1) [] → i + 1 ≤ q.length → q.length + freeN met ≤ cs.length → ∃ m, Ev (fun k => spec_l3Apart.l0 k a b met q ((i + 1 : Nat) : Int) w h cs) (!m) ∧ WayIs w h cs a b m) :
    ∀ (d j : Nat) (met : List Bool) (q : List Int), j + d = (nbF w h cs x).length → i < q.length → q.getD i 0 = x → rdOf false met x = true → Mid (nbX w h cs a b) a cs.length met (q.drop (i + 1)) x ((nbF w h cs x).take j) → q.length + freeN met ≤ cs.length → ∃ m, Ev (fun k => spec_l3Apart.l1 k a b met q i (nbF w h cs x) j w h cs) (!m) ∧ WayIs w h cs a b m
  | 0, j, met, q, e, iq, qx, xm, M, hz => by
      have ha := floorOk_area hf
      obtain ⟨m, em, hm⟩ := K met q (M.next (fun d hd => by rw [List.take_of_length_le (by omega)]; exact (List.mem_filter.1 hd).1)) (by omega) hz
      refine ⟨m, Ev.unroll ?_, hm⟩
      have w2 : wrap64 ((i : Int) + 1) = ((i + 1 : Nat) : Int) := wrap_sc (by omega)
      simp only [spec_l3Apart.l1, w2]
      exact Ev.ifn (by omega) em
  | d + 1, j, met, q, e, iq, qx, xm, M, hz => by
      have ha := floorOk_area hf
      have hj : j < (nbF w h cs x).length := by omega
      have hjm : (nbF w h cs x).getD j 0 ∈ nbF w h cs x := by rw [getD_at hj]; exact List.getElem_mem hj
      have hr := nbF_in hf x x0 x1 _ hjm
      have hl4 : (nbF w h cs x).length ≤ 4 := nearL_le _ _ _ _ _
      have w1 : wrap64 ((j : Int) + 1) = ((j + 1 : Nat) : Int) := wrap_sc (by omega)
      have hml := M.len
      generalize hv : (nbF w h cs x).getD j 0 = v at hjm hr
      have ht : (nbF w h cs x).take (j + 1) = (nbF w h cs x).take j ++ [v] := by rw [take_at hj, hv]
      have c1 : (j : Int) < ((nbF w h cs x).length : Int) := Int.ofNat_lt.2 hj
      have c2 : (0 : Int) ≤ (i : Int) := Int.natCast_nonneg i
      have c3 : (i : Int) < (q.length : Int) := Int.ofNat_lt.2 iq
      have c4 : (0 : Int) ≤ (j : Int) := Int.natCast_nonneg j
      have c5 : v < (met.length : Int) := by rw [hml]; exact hr.2
      by_cases hp : rdOf false met v = true ∨ stepB a b x v = true
      · obtain ⟨m, em, hm⟩ := spec_l3Apart_l1 w h cs hf a b a0 x x0 x1 i K d (j + 1) met q (by omega) iq qx xm (by rw [ht]; exact M.skip (fun h9 => hp.elim id (fun h8 => by rw [(mem_nbX hjm).1 h9] at h8; cases h8))) hz
        refine ⟨m, Ev.unroll ?_, hm⟩
        simp only [spec_l3Apart.l1, rd_nat', hv, w1, qx, if_pos c1, if_pos c2, if_pos c3, if_pos c4, if_pos hr.1, if_pos c5]
        rcases hp with g1 | g2
        · simp only [if_pos g1, ite_self]; exact em
        · unfold stepB at g2
          simp only [Bool.or_eq_true, Bool.and_eq_true, decide_eq_true_eq] at g2
          by_cases h1 : x = a
          · by_cases h2 : v = b
            · simp only [if_pos h1, if_pos h2]; exact em
            · simp only [if_pos h1, if_neg h2, if_pos (show x = b by omega), if_pos (show v = a by omega)]; exact em
          · simp only [if_neg h1, if_pos (show x = b by omega), if_pos (show v = a by omega)]; exact em
      · have g1 : ¬ rdOf false met v = true := fun q => hp (.inl q)
        have g2 : ¬ stepB a b x v = true := fun q => hp (.inr q)
        have hfn := freeN_set hr.1 (by rw [hml]; exact hr.2) g1
        have hvx : v ∈ nbX w h cs a b x := (mem_nbX hjm).2 (by simpa using g2)
        have hne : ¬ x = v := fun q => g1 (by rw [← q]; exact xm)
        have hq1 : (q ++ [v]).length = q.length + 1 := by simp
        obtain ⟨m, em, hm⟩ := spec_l3Apart_l1 w h cs hf a b a0 x x0 x1 i K d (j + 1) (met.set v.toNat true) (q ++ [v]) (by omega) (by omega) (by rw [← qx, List.getD_eq_getElem?_getD, List.getD_eq_getElem?_getD, List.getElem?_append_left iq]) (by rw [rdB_set hr.1 (by rw [hml]; exact hr.2) x0, if_neg hne]; exact xm) (by rw [ht, List.drop_append_of_le_length (by omega)]; exact M.push a0 x0 x1 xm hr.1 hr.2 hvx (fun c e he c0 c1 => (nbX_in hf a b c e he c0 c1).1)) (by omega)
        refine ⟨m, Ev.unroll ?_, hm⟩
        simp only [spec_l3Apart.l1, rd_nat', hv, w1, qx, if_pos c1, if_pos c2, if_pos c3, if_pos c4, if_pos hr.1, if_pos c5]
        have hb : q.length < 17592186044416 := by omega
        unfold stepB at g2
        simp only [Bool.or_eq_true, Bool.and_eq_true, decide_eq_true_eq] at g2
        simp only [if_neg g1, if_pos hb]
        by_cases h1 : x = a
        · by_cases h3 : x = b
          · simp only [if_pos h1, if_neg (show ¬ v = b by omega), if_pos h3, if_neg (show ¬ v = a by omega)]; exact em
          · simp only [if_pos h1, if_neg (show ¬ v = b by omega), if_neg h3]; exact em
        · by_cases h3 : x = b
          · simp only [if_neg h1, if_pos h3, if_neg (show ¬ v = a by omega)]; exact em
          · simp only [if_neg h1, if_neg h3]; exact em
theorem spec_l3Apart_l0 (w h : Int) (cs : List Int) (hf : floorOk w h cs = true) (a b : Int) (a0 : 0 ≤ a) (a1 : a < (cs.length : Int)) (b0 : 0 ≤ b) (b1 : b < (cs.length : Int)) : ∀ (s i : Nat) (met : List Bool) (q : List Int), i + s = cs.length → i ≤ q.length → Mid (nbX w h cs a b) a cs.length met (q.drop i) (-1) [] → q.length + freeN met ≤ cs.length → ∃ m, Ev (fun k => spec_l3Apart.l0 k a b met q i w h cs) (!m) ∧ WayIs w h cs a b m := by
  intro s
  induction s with
  | zero =>
    intro i met q e iq M hz
    rw [drop_end (by omega)] at M
    refine ⟨rdOf false met b, Ev.unroll ?_, M.fin a0 a1 (nbX_in hf a b) b0 b1⟩
    have hml := M.len
    simp only [spec_l3Apart.l0]
    exact Ev.ifn (by omega) (Ev.ifp b0 (Ev.ifp (by omega) (Ev.now _)))
  | succ s ih =>
    intro i met q e iq M hz
    by_cases hi : i < q.length
    · have hdc := drop_cons hi
      rw [hdc] at M
      have hx := M.pin q[i] (List.mem_cons_self)
      have fx := fitsAt hf hx.1 hx.2.1
      have hg : q.getD i 0 = q[i] := getD_at hi
      obtain ⟨m, em, hm⟩ := spec_l3Apart_l1 w h cs hf a b a0 q[i] hx.1 hx.2.1 i (fun met q M2 h2 h3 => ih (i + 1) met q (by omega) h2 M2 h3) (nbF w h cs q[i]).length 0 met q (by omega) hi hg hx.2.2 (by rw [List.take_zero]; exact M.take) hz
      refine ⟨m, Ev.unroll ?_, hm⟩
      simp only [spec_l3Apart.l0, rd_nat', hg]
      exact Ev.ifp (by omega) (Ev.ifp (by omega) (Ev.bind (spec_l1Near_f w h cs q[i] false fx.1 fx.2) em))
    · rw [drop_end (by omega)] at M
      refine ⟨rdOf false met b, Ev.unroll ?_, M.fin a0 a1 (nbX_in hf a b) b0 b1⟩
      have hml := M.len
      simp only [spec_l3Apart.l0]
      exact Ev.ifn (by omega) (Ev.ifp b0 (Ev.ifp (by omega) (Ev.now _)))
theorem spec_l3Apart_f (w h : Int) (cs : List Int) (hf : floorOk w h cs = true) (a b : Int) (a0 : 0 ≤ a) (a1 : a < (cs.length : Int)) (b0 : 0 ≤ b) (b1 : b < (cs.length : Int)) : ∃ m, Ev (fun k => spec_l3Apart.f k w h cs a b) (!m) ∧ WayIs w h cs a b m := by
  have ha := floorOk_area hf
  obtain ⟨M, hz⟩ := start_mid (w := w) (h := h) (b := b) a0 a1
  obtain ⟨m, em, hm⟩ := spec_l3Apart_l0 w h cs hf a b a0 a1 b0 b1 cs.length 0 _ [a] (by omega) (by simp) (by rw [List.drop_zero]; exact M) (by simpa using hz)
  refine ⟨m, ?_, hm⟩
  unfold spec_l3Apart.f
  simp only [Int.toNat_natCast, some_bind, List.length_replicate]
  exact Ev.ifp (by omega) (Ev.ifp (by omega) (Ev.ifp a0 (Ev.ifp a1 em)))
theorem apart_both (w h : Int) (cs : List Int) (hf : floorOk w h cs = true) (a b : Int) (a0 : 0 ≤ a) (a1 : a < (cs.length : Int)) (b0 : 0 ≤ b) (b1 : b < (cs.length : Int)) : ∃ m, Ev (fun k => spec_l3Apart.f k w h cs a b) (!m) ∧ Ev (fun k => impl_without.f k w h cs a b) m ∧ WayIs w h cs a b m := by
  obtain ⟨m, e1, h1⟩ := spec_l3Apart_f w h cs hf a b a0 a1 b0 b1
  obtain ⟨m', e2, h2⟩ := impl_without_f w h cs hf a b a0 a1 b0 b1
  have e : m' = m := by rw [Bool.eq_iff_iff]; exact Iff.trans h2 h1.symm
  subst e
  exact ⟨m', e1, e2, h1⟩

/-! #### Bridges -/
theorem bridges_l1 (w h : Int) (cs : List Int) (hf : floorOk w h cs = true) (i : Nat) (hi : i < cs.length)
    (K : ∀ acc : List S111, acc.length ≤ 4 * (i + 1) → ∃ R, Ev (fun k => spec_Bridges.l0 k acc ((i + 1 : Nat) : Int) w h cs) R ∧ Ev (fun k => impl_Bridges.l0 k acc cs cs.length ((i + 1 : Nat) : Int) w h cs) R ∧ R.length ≤ 400) :
    ∀ (d j : Nat) (acc : List S111), j + d = (nbF w h cs i).length → acc.length ≤ 4 * i + j → ∃ R, Ev (fun k => spec_Bridges.l1 k acc i (nbF w h cs i) j w h cs) R ∧ Ev (fun k => impl_Bridges.l1 k acc i cs cs.length i (nbF w h cs i) (nbF w h cs i).length j w h cs) R ∧ R.length ≤ 400
  | 0, j, acc, e, hl => by
      have ha := floorOk_area hf
      have hl4 : (nbF w h cs i).length ≤ 4 := nearL_le _ _ _ _ _
      have w1 : wrap64 ((i : Int) + 1) = ((i + 1 : Nat) : Int) := wrap_sc (by omega)
      obtain ⟨R, e1, e2, hR⟩ := K acc (by omega)
      refine ⟨R, Ev.unroll ?_, Ev.unroll ?_, hR⟩
      · simp only [spec_Bridges.l1, w1]; exact Ev.ifn (by omega) e1
      · simp only [impl_Bridges.l1, w1]; exact Ev.ifn (by omega) e2
  | d + 1, j, acc, e, hl => by
      have ha := floorOk_area hf
      have hl4 : (nbF w h cs i).length ≤ 4 := nearL_le _ _ _ _ _
      have hj : j < (nbF w h cs i).length := by omega
      have hjm : (nbF w h cs i).getD j 0 ∈ nbF w h cs i := by rw [getD_at hj]; exact List.getElem_mem hj
      have hr := nbF_in hf i (by omega) (by omega) _ hjm
      have w1 : wrap64 ((j : Int) + 1) = ((j + 1 : Nat) : Int) := wrap_sc (by omega)
      generalize hv : (nbF w h cs i).getD j 0 = v at hjm hr
      by_cases hg : (i : Int) < v
      · obtain ⟨m, s1, s2, _⟩ := apart_both w h cs hf i v (by omega) (by omega) hr.1 hr.2
        cases m with
        | true =>
          obtain ⟨R, e1, e2, hR⟩ := bridges_l1 w h cs hf i hi K d (j + 1) acc (by omega) (by omega)
          refine ⟨R, Ev.unroll ?_, Ev.unroll ?_, hR⟩
          · simp only [spec_Bridges.l1, rd_nat', hv, w1]
            exact Ev.ifp (by omega) (Ev.ifp (by omega) (Ev.ifp hg (Ev.bind s1 (Ev.ifn (by decide) e1))))
          · simp only [impl_Bridges.l1, rd_nat', hv, w1]
            exact Ev.ifp (by omega) (Ev.ifp (by omega) (Ev.ifp (by omega) (Ev.ifp hg (Ev.bind s2 (Ev.ifp rfl e2)))))
        | false =>
          obtain ⟨R, e1, e2, hR⟩ := bridges_l1 w h cs hf i hi K d (j + 1) (acc ++ [(⟨(i : Int), v⟩ : S111)]) (by omega) (by rw [List.length_append]; simp only [List.length_cons, List.length_nil]; omega)
          have hb : acc.length < 8796093022208 := by omega
          refine ⟨R, Ev.unroll ?_, Ev.unroll ?_, hR⟩
          · simp only [spec_Bridges.l1, rd_nat', hv, w1]
            exact Ev.ifp (by omega) (Ev.ifp (by omega) (Ev.ifp hg (Ev.bind s1 (Ev.ifp rfl (Ev.ifp hb e1)))))
          · simp only [impl_Bridges.l1, rd_nat', hv, w1]
            exact Ev.ifp (by omega) (Ev.ifp (by omega) (Ev.ifp (by omega) (Ev.ifp hg (Ev.bind s2 (Ev.ifn (by decide) (Ev.ifp hb e2))))))
      · obtain ⟨R, e1, e2, hR⟩ := bridges_l1 w h cs hf i hi K d (j + 1) acc (by omega) (by omega)
        refine ⟨R, Ev.unroll ?_, Ev.unroll ?_, hR⟩
        · simp only [spec_Bridges.l1, rd_nat', hv, w1]
          exact Ev.ifp (by omega) (Ev.ifp (by omega) (Ev.ifn hg e1))
        · simp only [impl_Bridges.l1, rd_nat', hv, w1]
          exact Ev.ifp (by omega) (Ev.ifp (by omega) (Ev.ifp (by omega) (Ev.ifn hg e2)))
theorem bridges_l0 (w h : Int) (cs : List Int) (hf : floorOk w h cs = true) : ∀ (d i : Nat) (acc : List S111), i + d = cs.length → acc.length ≤ 4 * i → ∃ R, Ev (fun k => spec_Bridges.l0 k acc i w h cs) R ∧ Ev (fun k => impl_Bridges.l0 k acc cs cs.length i w h cs) R ∧ R.length ≤ 400
  | 0, i, acc, e, hl => by
      have ha := floorOk_area hf
      refine ⟨acc, Ev.unroll ?_, Ev.unroll ?_, by omega⟩
      · simp only [spec_Bridges.l0]; exact Ev.ifn (by omega) (Ev.now _)
      · simp only [impl_Bridges.l0]; exact Ev.ifn (by omega) (Ev.now _)
  | d + 1, i, acc, e, hl => by
      have ha := floorOk_area hf
      have hi : i < cs.length := by omega
      have fx := fitsAt hf (show (0 : Int) ≤ (i : Int) by omega) (show (i : Int) < (cs.length : Int) by omega)
      have w1 : wrap64 ((i : Int) + 1) = ((i + 1 : Nat) : Int) := wrap_sc (by omega)
      by_cases h0 : rd cs (i : Int) = 0
      · obtain ⟨R, e1, e2, hR⟩ := bridges_l0 w h cs hf d (i + 1) acc (by omega) (by omega)
        refine ⟨R, Ev.unroll ?_, Ev.unroll ?_, hR⟩
        · simp only [spec_Bridges.l0, w1]; exact Ev.ifp (by omega) (Ev.ifp (by omega) (Ev.ifp h0 e1))
        · simp only [impl_Bridges.l0, w1]; exact Ev.ifp (by omega) (Ev.ifp (by omega) (Ev.ifp (by omega) (Ev.ifp h0 e2)))
      · obtain ⟨R, e1, e2, hR⟩ := bridges_l1 w h cs hf i hi (fun acc ha => bridges_l0 w h cs hf d (i + 1) acc (by omega) ha) (nbF w h cs i).length 0 acc (by omega) (by omega)
        refine ⟨R, Ev.unroll ?_, Ev.unroll ?_, hR⟩
        · simp only [spec_Bridges.l0, w1]; exact Ev.ifp (by omega) (Ev.ifp (by omega) (Ev.ifn h0 (Ev.bind (spec_l1Near_f w h cs i false fx.1 fx.2) e1)))
        · simp only [impl_Bridges.l0, w1]; exact Ev.ifp (by omega) (Ev.ifp (by omega) (Ev.ifp (by omega) (Ev.ifn h0 (Ev.bind (impl_near_f w h cs i false fx.1 fx.2) e2))))
theorem bridges_f (w h : Int) (cs : List Int) (hn : cs.length ≤ BIG) : ∃ R, Ev (fun k => spec_Bridges.f k w h cs) R ∧ Ev (fun k => impl_Bridges.f k w h cs) R ∧ R.length ≤ 400 := by
  by_cases hf : floorOk w h cs = true
  · obtain ⟨R, e1, e2, hR⟩ := bridges_l0 w h cs hf cs.length 0 [] (by omega) (by simp)
    have s1 := spec_FloorOk_f w h cs hn
    have s2 := impl_FloorOk_f w h cs hn
    rw [hf] at s1 s2
    refine ⟨R, ?_, ?_, hR⟩
    · unfold spec_Bridges.f; simp only [some_bind]; exact Ev.bind s1 (Ev.ifp rfl e1)
    · unfold impl_Bridges.f; exact Ev.bind s2 (Ev.ifp rfl e2)
  · have s1 := spec_FloorOk_f w h cs hn
    have s2 := impl_FloorOk_f w h cs hn
    rw [Bool.not_eq_true] at hf
    rw [hf] at s1 s2
    refine ⟨[], ?_, ?_, by simp⟩
    · unfold spec_Bridges.f; simp only [some_bind]; exact Ev.bind s1 (Ev.ifn (by decide) (Ev.now _))
    · unfold impl_Bridges.f; exact Ev.bind s2 (Ev.ifn (by decide) (Ev.now _))

/-! #### FnExactBridges -/
theorem FnExactBridges : ∀ (a0_0 : Int) (a0_1 : Int) (l0_2 : List (Int)), (-9223372036854775808 ≤ a0_0 ∧ a0_0 ≤ 9223372036854775807) → (-9223372036854775808 ≤ a0_1 ∧ a0_1 ≤ 9223372036854775807) → (l0_2.length ≤ 9223372036854775807 ∧ ∀ y0 ∈ l0_2, (-9223372036854775808 ≤ y0 ∧ y0 ≤ 9223372036854775807)) → ∃ k, laws_FnExactBridges.f k a0_0 a0_1 l0_2 = some true := by
  intro w h l _ _ ⟨hl, _⟩
  refine Ev.rounds ?_
  unfold laws_FnExactBridges.f
  by_cases hb : (l.length : Int) ≤ 1048576
  · have hl2 : l.length ≤ 1048576 := by omega
    have hB : l.length ≤ BIG := by unfold BIG; omega
    obtain ⟨R, s1, s2, hR⟩ := bridges_f w h l hB
    have e1 := eqPairs_f R (by unfold BIG; omega)
    have e2 := markPairs_f R (by unfold BIG; omega)
    have e3 := heldPairs_f R.length (by unfold BIG; omega)
    have e4 := markFloor_f w h l 1 (by unfold BIG; omega)
    have e5 := eqFloor_f w h l hB
    simp (disch := omega) only [szFloor_f w h l _ hl (show (0 : Int) ≤ 1048576 by omega) (by omega), ↓if_pos, ↓if_neg, if_pos, if_neg, decide_eq_true_eq, ↓reduceIte, ↓wrap_sc, wrap_id, some_bind, Int.toNat_natCast, rd_nat', getD_zero', Bool.not_true, Bool.not_false, Bool.false_eq_true, decide_true, decide_false]
    repeat (first | exact Ev.now _ | (with_reducible refine Ev.bind (toFloor_f w h l hl2) ?_; try dsimp only) | (with_reducible refine Ev.bind (s1) ?_; try dsimp only) | (with_reducible refine Ev.bind (s2) ?_; try dsimp only) | (with_reducible refine Ev.bind (e1) ?_; try dsimp only) | (with_reducible refine Ev.bind (e2) ?_; try dsimp only) | (with_reducible refine Ev.bind (e3) ?_; try dsimp only) | (with_reducible refine Ev.bind (e4) ?_; try dsimp only) | (with_reducible refine Ev.bind (e5) ?_; try dsimp only) | (with_reducible refine Ev.ifp ?cc ?_; (case cc => first | rfl | decide | assumption | omega)) | (with_reducible refine Ev.ifn ?cc ?_; (case cc => first | decide | assumption | omega)) | simp only [Bool.not_true, some_bind] | (refine Ev.unroll ?_; simp only [laws_FnExactBridges.j0]))
  · simp (disch := omega) only [szFloor_f w h l _ hl (show (0 : Int) ≤ 1048576 by omega) (by omega), ↓if_pos, ↓if_neg, if_pos, if_neg, decide_eq_true_eq, ↓reduceIte, ↓wrap_sc, wrap_id, some_bind, Int.toNat_natCast, rd_nat', getD_zero', Bool.not_true, Bool.not_false, Bool.false_eq_true, decide_true, decide_false]
    exact Ev.now _

end Go.Proofs.Ytmjpmekckgjcpaa.Pure
