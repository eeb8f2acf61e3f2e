/- Proved here: the law FnExactParseFloor, over numbers and lists: for all arguments it returns true; no condition. -/
import Derived.Test.YtmjpmekckgjcpaaPFnExactParseFloorx4
namespace Go.Proofs.Ytmjpmekckgjcpaa.Pure
open Go.RowKit Go.Proofs.Ytmjpmekckgjcpaa.PFnExactParseFloor Go.Proofs.YtmjpmekckgjcpaaW.PrintWords Go.Proofs.YtmjpmekckgjcpaaW.PrintLast
set_option linter.unusedVariables false
set_option linter.unusedSimpArgs false

/-! #### base -/
/-! Words of this session: rounds, whole numbers in their bounds, reading by index. -/
theorem Ev.unroll {α : Type} {g : Nat → Option α} {r : α} (h : Ev (fun k => g (k + 1)) r) : Ev g r := Ev.step (fun _ => rfl) h
theorem Ev.const {α : Type} {x : Option α} {r : α} (h : x = some r) : Ev (fun _ => x) r := ⟨0, fun _ _ => h⟩
theorem Ev.fin {α : Type} {r s : α} (h : r = s) : Ev (fun _ => some r) s := by rw [h]; exact Ev.now _
theorem wrap_id {x : Int} (h0 : -9223372036854775808 ≤ x) (h1 : x ≤ 9223372036854775807) : wrap64 x = x := by unfold wrap64; omega
/-- The bound of all lengths here. -/
abbrev BIG : Nat := 4611686018427387904
theorem wrap_succ {i n : Nat} (h : i < n) (hn : n ≤ BIG) : wrap64 ((i : Int) + 1) = ((i + 1 : Nat) : Int) := by unfold wrap64; unfold BIG at hn; omega
theorem wrap_pred {i n : Nat} (h : i < n) (h0 : 0 < i) (hn : n ≤ BIG) : wrap64 ((i : Int) - 1) = ((i - 1 : Nat) : Int) := by unfold wrap64; unfold BIG at hn; omega
theorem rd_nat {xs : List Int} {i : Nat} (h : i < xs.length) : rd xs (i : Int) = xs[i] := by unfold rd; simp [List.getD, h]
theorem getD_nat {α : Type} {xs : List α} {d : α} {i : Nat} (h : i < xs.length) : xs.getD (i : Int).toNat d = xs[i] := by simp [List.getD, h]
theorem getD_zero {α : Type} {xs : List α} {d : α} (h : 0 < xs.length) : xs.getD (0 : Int).toNat d = xs[0] := by simp [List.getD, h]
theorem drop_cons {α : Type} {xs : List α} {i : Nat} (h : i < xs.length) : xs.drop i = xs[i] :: xs.drop (i + 1) := List.drop_eq_getElem_cons h
theorem drop_end {α : Type} {xs : List α} {i : Nat} (h : xs.length ≤ i) : xs.drop i = [] := List.drop_of_length_le h
/-- A list filled from the front, by index. -/
theorem fill_step {α : Type} (ys zs : List α) (x : α) {i : Nat} (hi : i = ys.length) (hz : 0 < zs.length) : (ys ++ zs).set i x = (ys ++ [x]) ++ zs.drop 1 := by
  subst hi
  match zs, hz with
  | z :: zs, _ => simp
theorem set_id {α : Type} (xs : List α) (i : Nat) (h : i < xs.length) : xs.set i xs[i] = xs := by
  apply List.ext_getElem
  · simp
  · intro j h1 h2
    rw [List.getElem_set]
    split
    · rename_i e; subst e; rfl
    · rfl
theorem some_bind {α β : Type} (a : α) (f : α → Option β) : (some a).bind f = f a := rfl
theorem getD_at {α : Type} {xs : List α} {d : α} {i : Nat} (h : i < xs.length) : xs.getD i d = xs[i] := by simp [List.getD, h]
/-- All places from i on, below n. -/
def allFrom (n i : Nat) (p : Nat → Bool) : Bool := (List.range' i (n - i)).all p
theorem allFrom_end {n i : Nat} {p : Nat → Bool} (h : n ≤ i) : allFrom n i p = true := by
  unfold allFrom
  rw [show n - i = 0 by omega]; rfl
theorem allFrom_step {n i : Nat} {p : Nat → Bool} (h : i < n) : allFrom n i p = (p i && allFrom n (i + 1) p) := by
  unfold allFrom
  rw [show n - i = (n - (i + 1)) + 1 by omega, List.range'_succ, List.all_cons]
theorem allFrom_no {n i : Nat} {p : Nat → Bool} (h : i < n) (hp : p i = false) : allFrom n i p = false := by rw [allFrom_step h, hp, Bool.false_and]
theorem allFrom_yes {n i : Nat} {p : Nat → Bool} (h : i < n) (hp : p i = true) : allFrom n i p = allFrom n (i + 1) p := by rw [allFrom_step h, hp, Bool.true_and]
theorem allFrom_iff {n i : Nat} {p : Nat → Bool} : allFrom n i p = true ↔ ∀ j, i ≤ j → j < n → p j = true := by
  unfold allFrom
  rw [List.all_eq_true]
  constructor
  · intro h j h1 h2
    exact h j (by rw [List.mem_range'_1]; omega)
  · intro h j hj
    rw [List.mem_range'_1] at hj
    exact h j hj.1 (by omega)
theorem itd_pos {α : Type} {p : Prop} [Decidable p] (h : p) {a b : α} : (if decide p = true then a else b) = a := if_pos (decide_eq_true h)
theorem itd_neg {α : Type} {p : Prop} [Decidable p] (h : ¬ p) {a b : α} : (if decide p = true then a else b) = b := if_neg (by rw [decide_eq_false h]; decide)
/-- The places from i on, below n, that p holds of. -/
def filtFrom (n i : Nat) (p : Nat → Bool) : List Int := ((List.range' i (n - i)).filter p).map (fun j : Nat => (j : Int))
theorem filtFrom_end {n i : Nat} {p : Nat → Bool} (h : n ≤ i) : filtFrom n i p = [] := by
  unfold filtFrom
  rw [show n - i = 0 by omega]; rfl
theorem filtFrom_yes {n i : Nat} {p : Nat → Bool} (h : i < n) (hp : p i = true) : filtFrom n i p = (i : Int) :: filtFrom n (i + 1) p := by
  unfold filtFrom
  rw [show n - i = (n - (i + 1)) + 1 by omega, List.range'_succ, List.filter_cons, if_pos hp, List.map_cons]
theorem filtFrom_no {n i : Nat} {p : Nat → Bool} (h : i < n) (hp : p i = false) : filtFrom n i p = filtFrom n (i + 1) p := by
  unfold filtFrom
  rw [show n - i = (n - (i + 1)) + 1 by omega, List.range'_succ, List.filter_cons, if_neg (by rw [hp]; decide)]
theorem filtFrom_le {n i : Nat} {p : Nat → Bool} : (filtFrom n i p).length ≤ n - i := by
  unfold filtFrom
  rw [List.length_map]
  exact Nat.le_trans (List.length_filter_le _ _) (by simp)
theorem mem_filtFrom {n i : Nat} {p : Nat → Bool} {x : Int} : x ∈ filtFrom n i p ↔ ∃ j : Nat, i ≤ j ∧ j < n ∧ p j = true ∧ x = (j : Int) := by
  unfold filtFrom
  simp only [List.mem_map, List.mem_filter, List.mem_range'_1]
  constructor
  · rintro ⟨j, ⟨⟨h1, h2⟩, h3⟩, rfl⟩; exact ⟨j, h1, by omega, h3, rfl⟩
  · rintro ⟨j, h1, h2, h3, rfl⟩; exact ⟨j, ⟨⟨h1, by omega⟩, h3⟩, rfl⟩
theorem wrap_sc {i : Nat} (h : i < 9223372036854775807) : wrap64 ((i : Int) + 1) = ((i + 1 : Nat) : Int) := by unfold wrap64; omega
theorem rd_nat' {xs : List Int} {i : Nat} : rd xs (i : Int) = xs.getD i 0 := by unfold rd; rw [Int.toNat_natCast]
theorem getD_zero' {α : Type} {xs : List α} {d : α} : xs.getD (0 : Int).toNat d = xs.getD 0 d := rfl
theorem Bool.ite_tf (b : Bool) : (if b = true then true else false) = b := by cases b <;> rfl
theorem ev_ite {α : Type} {c : Prop} [Decidable c] {g h : Nat → Option α} {r s : α} (h1 : c → Ev g r) (h2 : ¬ c → Ev h s) : Ev (fun k => if c then g k else h k) (if c then r else s) := by
  by_cases hc : c
  · simp only [if_pos hc]; exact h1 hc
  · simp only [if_neg hc]; exact h2 hc
theorem Ev.ifp {α : Type} {c : Prop} [Decidable c] {g h : Nat → Option α} {r : α} (hc : c) (e : Ev g r) : Ev (fun k => if c then g k else h k) r := by simp only [if_pos hc]; exact e
theorem Ev.ifn {α : Type} {c : Prop} [Decidable c] {g h : Nat → Option α} {r : α} (hc : ¬ c) (e : Ev h r) : Ev (fun k => if c then g k else h k) r := by simp only [if_neg hc]; exact e
theorem ev_ite' {α : Type} {c : Prop} [Decidable c] {g h : Nat → Option α} {r : α} (h1 : c → Ev g r) (h2 : ¬ c → Ev h r) : Ev (fun k => if c then g k else h k) r := by
  by_cases hc : c
  · simp only [if_pos hc]; exact h1 hc
  · simp only [if_neg hc]; exact h2 hc

/-! #### EqInts -/
theorem eqIntS_l0 (xs : List Int) (hn : xs.length ≤ BIG) : ∀ (d i : Nat), i + d = xs.length → Ev (fun k => laws_eqIntS.l0 k xs xs i) true
  | 0, i, h => Ev.unroll (by
      simp only [laws_eqIntS.l0]
      simp only [if_neg (show ¬ (i : Int) < xs.length by omega)]
      exact Ev.now _)
  | d + 1, i, h => Ev.unroll (by
      have hi : i < xs.length := by omega
      simp only [laws_eqIntS.l0]
      simp only [if_pos (show (i : Int) < xs.length by omega), if_pos (show (0 : Int) ≤ i by omega), wrap_succ hi hn, if_true]
      exact eqIntS_l0 xs hn d (i + 1) (by omega))
theorem eqIntS_f (l : List Int) (h : l.length ≤ BIG) : Ev (fun k => laws_eqIntS.f k l l) true := by
  unfold laws_eqIntS.f
  simp only [if_true]
  exact eqIntS_l0 l h l.length 0 (by omega)

/-! #### Ints -/
/-! #### FloorArg -/
theorem eqFloor_f (w h : Int) (l : List Int) (hl : l.length ≤ BIG) : Ev (fun k => laws_eqFloor.f k w h l w h l) true := by
  unfold laws_eqFloor.f
  simp only [if_true]
  exact Ev.bind (eqIntS_f l hl) (Ev.now _)

/-! #### Marks -/
/-- a, a + 1, .. : n of them. -/
def marksFrom (a n : Nat) : List Int := (List.range' a n).map (fun j : Nat => (j : Int))
theorem marksFrom_length (a n : Nat) : (marksFrom a n).length = n := by unfold marksFrom; simp
theorem marksFrom_succ (a n : Nat) : marksFrom a (n + 1) = marksFrom a n ++ [((a + n : Nat) : Int)] := by
  unfold marksFrom
  rw [List.range'_1_concat, List.map_append]; rfl
theorem marksFrom_getD (a n i : Nat) (h : i < n) : (marksFrom a n).getD i 0 = ((a + i : Nat) : Int) := by
  rw [getD_at (by rw [marksFrom_length]; exact h)]
  unfold marksFrom
  simp
theorem markIntS_l0 (a n : Nat) (hn : a + n ≤ BIG) : ∀ (d i : Nat) (zs : List Int), i + d = n → zs.length = d → Ev (fun k => laws_markIntS.l0 k (marksFrom a i ++ zs) ((a + i : Nat) : Int) i) (((a + n : Nat) : Int), marksFrom a n)
  | 0, i, zs, h, hz => Ev.unroll (by
      obtain rfl := List.length_eq_zero_iff.1 hz
      obtain rfl : i = n := by omega
      simp only [laws_markIntS.l0, List.append_nil, marksFrom_length, Int.lt_irrefl, if_false]
      exact Ev.now _)
  | d + 1, i, zs, h, hz => Ev.unroll (by
      have hl : (marksFrom a i ++ zs).length = n := by rw [List.length_append, marksFrom_length]; omega
      simp only [laws_markIntS.l0, hl]
      simp only [if_pos (show (i : Int) < (n : Int) by omega), if_pos (show (0 : Int) ≤ i by omega), wrap_succ (show i < n by omega) (by omega), wrap_succ (show a + i < a + n by omega) hn, Int.toNat_natCast]
      rw [fill_step (marksFrom a i) zs _ (marksFrom_length a i).symm (by omega), ← marksFrom_succ, Nat.add_assoc]
      exact markIntS_l0 a n hn d (i + 1) _ (by omega) (by simp; omega))
theorem markIntS_f (l : List Int) (a : Nat) (hn : a + l.length ≤ BIG) : Ev (fun k => laws_markIntS.f k l (a : Int)) (((a + l.length : Nat) : Int), marksFrom a l.length) :=
  markIntS_l0 a l.length hn l.length 0 l (by omega) rfl
theorem heldIntS_l0 (a n : Nat) (hn : a + n ≤ BIG) : ∀ (d i : Nat), i + d = n → Ev (fun k => laws_heldIntS.l0 k (marksFrom a n) ((a + i : Nat) : Int) i) ((a + n : Nat) : Int)
  | 0, i, h => Ev.unroll (by
      obtain rfl : i = n := by omega
      simp only [laws_heldIntS.l0, marksFrom_length, Int.lt_irrefl, if_false]
      exact Ev.now _)
  | d + 1, i, h => Ev.unroll (by
      simp only [laws_heldIntS.l0, marksFrom_length]
      simp only [if_pos (show (i : Int) < (n : Int) by omega), if_pos (show (0 : Int) ≤ i by omega), wrap_succ (show i < n by omega) (by omega), wrap_succ (show a + i < a + n by omega) hn, rd, Int.toNat_natCast, marksFrom_getD a n i (by omega), if_true]
      exact heldIntS_l0 a n hn d (i + 1) (by omega))
theorem heldIntS_f (a n : Nat) (hn : a + n ≤ BIG) : Ev (fun k => laws_heldIntS.f k (marksFrom a n) (a : Int)) ((a + n : Nat) : Int) :=
  heldIntS_l0 a n hn n 0 (by omega)

/-! #### MarkFloor -/
theorem markFloor_f (w h : Int) (l : List Int) (a : Nat) (hn : a + l.length ≤ BIG) : Ev (fun k => laws_markFloor.f k w h l (a : Int)) (((a + l.length : Nat) : Int), marksFrom a l.length) := by
  unfold laws_markFloor.f
  exact Ev.bind (markIntS_f l a hn) (Ev.now _)

/-! #### HeldFloor -/
theorem heldFloor_f (w h : Int) (a n : Nat) (hn : a + n ≤ BIG) : Ev (fun k => laws_heldFloor.f k w h (marksFrom a n) (a : Int)) ((a + n : Nat) : Int) := by
  unfold laws_heldFloor.f
  exact Ev.bind (heldIntS_f a n hn) (Ev.now _)

/-! #### In -/
/-- Between two bounds. -/
def inB (a b c : Int) : Bool := decide (b ≤ a ∧ a ≤ c)
theorem inB_iff {a b c : Int} : inB a b c = true ↔ b ≤ a ∧ a ≤ c := by unfold inB; exact decide_eq_true_iff
theorem inB_no {a b c : Int} : inB a b c = false ↔ ¬ (b ≤ a ∧ a ≤ c) := by rw [← inB_iff]; simp
theorem impl_in_f (a b c : Int) : impl_in.f a b c = some (inB a b c) := by
  unfold impl_in.f inB
  by_cases h : b ≤ a <;> by_cases h2 : a ≤ c <;> simp [h, h2]
theorem spec_l1In_f (a b c : Int) : spec_l1In.f a b c = some (inB a b c) := by
  unfold spec_l1In.f inB
  by_cases h : b ≤ a <;> by_cases h2 : a ≤ c <;> simp [h, h2]

/-! #### Lines -/
theorem ev_as {α : Type} {g : Nat → Option α} {r s : α} (h : Ev g r) (e : r = s) : Ev g s := e ▸ h
/-- A string of these bytes. -/
abbrev ba (l : List UInt8) : ByteArray := ⟨⟨l⟩⟩
theorem ba_data (s : ByteArray) : s = ba s.data.toList := rfl
theorem ba_size (l : List UInt8) : (ba l).size = l.length := rfl
theorem ba_toList (l : List UInt8) : (ba l).toList = l := by rw [Lib.toList_data]
theorem ba_bt {l : List UInt8} {i : Nat} : bt (ba l) (i : Int) = ((l.getD i 0).toNat : Int) := by
  unfold bt
  rw [Int.toNat_natCast]
  by_cases h : i < l.length
  · rw [dif_pos (by exact h)]
    rw [getD_at h]
    rfl
  · rw [dif_neg (by exact h)]
    rw [List.getD_eq_getElem?_getD, List.getElem?_eq_none (by omega)]
    rfl
theorem ba_extract (l : List UInt8) (a b : Nat) : (ba l).extract a b = ba ((l.take b).drop a) := by
  apply ByteArray.ext
  apply Array.ext'
  rw [ByteArray.data_extract]
  simp [List.drop_take]
/-- The first line, and what stands behind it. -/
def cutL : List UInt8 → Option (List UInt8 × List UInt8)
  | [] => none
  | c :: t => if c = 10 then some ([], t) else (cutL t).map fun p => (c :: p.1, p.2)
/-- The lines. -/
def splitL : List UInt8 → List (List UInt8)
  | [] => [[]]
  | c :: t => if c = 10 then [] :: splitL t else ((c :: (splitL t).headD []) :: (splitL t).tail)
theorem splitL_ne (l : List UInt8) : splitL l ≠ [] := by
  cases l with
  | nil => simp [splitL]
  | cons c t => rw [splitL]; split <;> simp
theorem splitL_none : ∀ (l : List UInt8), cutL l = none → splitL l = [l]
  | [], _ => rfl
  | c :: t, h => by
      rw [cutL] at h
      by_cases hc : c = 10
      · rw [if_pos hc] at h; exact absurd h (by simp)
      · rw [if_neg hc, Option.map_eq_none_iff] at h
        rw [splitL, if_neg hc, splitL_none t h]; rfl
theorem splitL_some : ∀ (l a b : List UInt8), cutL l = some (a, b) → splitL l = a :: splitL b ∧ l = a ++ 10 :: b
  | [], a, b, h => by simp [cutL] at h
  | c :: t, a, b, h => by
      rw [cutL] at h
      by_cases hc : c = 10
      · rw [if_pos hc] at h
        simp only [Option.some.injEq, Prod.mk.injEq] at h
        obtain ⟨rfl, rfl⟩ := h
        rw [splitL, if_pos hc, hc]
        exact ⟨rfl, rfl⟩
      · rw [if_neg hc] at h
        obtain ⟨⟨a', b'⟩, h1, h2⟩ := Option.map_eq_some_iff.1 h
        simp only [Prod.mk.injEq] at h2
        obtain ⟨rfl, rfl⟩ := h2
        obtain ⟨e1, e2⟩ := splitL_some t a' b' h1
        rw [splitL, if_neg hc, e1]
        exact ⟨rfl, by rw [e2]; rfl⟩
theorem index_cut : ∀ (l : List UInt8), Lib.indexByte l 10 = match cutL l with | none => -1 | some (a, _) => (a.length : Int)
  | [] => rfl
  | c :: t => by
      have ih := index_cut t
      rw [Lib.indexByte, cutL, ih]
      by_cases hc : c = 10
      · rw [if_pos hc, if_pos (by rw [hc]; rfl)]; rfl
      · rw [if_neg hc, if_neg (by simpa using hc)]
        cases hq : cutL t with
        | none => rfl
        | some p =>
          simp only [Option.map_some]
          rw [if_neg (by simp)]
          simp
theorem strings_Cut_f (l : List UInt8) (hl : l.length ≤ 1048576) : strings_Cut.f (ba l) (⟨#[10]⟩ : ByteArray) = some (match cutL l with | none => (ba l, (⟨#[]⟩ : ByteArray), false) | some (a, b) => (ba a, ba b, true)) := by
  unfold strings_Cut.f stringslite_Cut.f
  rw [show stringslite_Index.f (ba l) (⟨#[10]⟩ : ByteArray) = some (Lib.indexByte l 10) from rfl, index_cut]
  cases hq : cutL l with
  | none => rfl
  | some p =>
    obtain ⟨a, b⟩ := p
    obtain ⟨_, e⟩ := splitL_some l a b hq
    have hz : l.length = a.length + b.length + 1 := by rw [e]; simp; omega
    have hw : wrap64 ((a.length : Int) + ((1 : Nat) : Int)) = ((a.length + 1 : Nat) : Int) := wrap_sc (by omega)
    simp only [some_bind, show (⟨#[10]⟩ : ByteArray).size = 1 from rfl, hw, ba_size]
    rw [if_pos (by omega), if_pos (by omega), if_pos (by omega), if_pos (by omega), if_pos (by omega)]
    simp only [some_bind, Int.toNat_natCast, ba_extract]
    have q1 : (a ++ 10 :: b).take a.length = a := by simp
    have q2 : ((a ++ 10 :: b).take (a ++ 10 :: b).length).drop (a.length + 1) = b := by rw [List.take_length, List.drop_append]; simp
    rw [e]
    simp only [List.drop_zero, q1, q2]
theorem spec_l1Split_l0 (l : List UInt8) (hl : l.length ≤ 1048576) : ∀ (d i j : Nat) (out : List ByteArray), i + d = l.length → j ≤ i → out.length ≤ j → Ev (fun k => spec_l1Split.l0 k (ba l) 10 out j i) (out ++ ((((l.take i).drop j ++ (splitL (l.drop i)).headD []) :: (splitL (l.drop i)).tail).map ba))
  | 0, i, j, out, e, hj, ho => Ev.unroll (by
      have ei : i = l.length := by omega
      subst ei
      have e1 : wrap64 ((l.length : Int) + 1) = ((l.length + 1 : Nat) : Int) := wrap_sc (by omega)
      simp only [spec_l1Split.l0, ba_size, ba_extract, Int.toNat_natCast, e1]
      refine Ev.ifp (by omega) (Ev.ifp trivial (Ev.ifp (by omega) (Ev.ifp (by omega) (Ev.ifp (by omega) (Ev.unroll ?_)))))
      simp only [spec_l1Split.l0, ba_size]
      refine Ev.ifn (by omega) (Ev.fin ?_)
      simp [splitL])
  | d + 1, i, j, out, e, hj, ho => Ev.unroll (by
      have hi : i < l.length := by omega
      have e1 : wrap64 ((i : Int) + 1) = ((i + 1 : Nat) : Int) := wrap_sc (by omega)
      simp only [spec_l1Split.l0, ba_size, ba_extract, Int.toNat_natCast, e1, ba_bt]
      refine Ev.ifp (by omega) (Ev.ifn (by omega) (Ev.ifp (by omega) (Ev.ifp (by omega) ?_)))
      have hd : l.drop i = l[i] :: l.drop (i + 1) := drop_cons hi
      have hg : l.getD i 0 = l[i] := getD_at hi
      have ht : l.take (i + 1) = l.take i ++ [l[i]] := by rw [List.take_succ_eq_append_getElem hi]
      rw [hg, hd, splitL]
      by_cases hc : l[i] = 10
      · refine Ev.ifp (by rw [hc]; rfl) (Ev.ifp (by omega) (Ev.ifp (by omega) (Ev.ifp (by omega) ?_)))
        rw [if_pos hc]
        refine ev_as (spec_l1Split_l0 l hl d (i + 1) (i + 1) _ (by omega) (by omega) (by rw [List.length_append]; simp only [List.length_cons, List.length_nil]; omega)) ?_
        have h0 : (l.take (i + 1)).drop (i + 1) = [] := by rw [List.drop_eq_nil_iff]; simp; omega
        rw [h0]
        obtain ⟨x, xs, hx⟩ := List.exists_cons_of_ne_nil (splitL_ne (l.drop (i + 1)))
        rw [hx]
        simp
      · refine Ev.ifn (fun h9 => hc ?_) ?_
        · apply UInt8.toNat_inj.1
          rw [show ((10 : UInt8).toNat) = 10 from rfl]
          omega
        rw [if_neg hc]
        refine ev_as (spec_l1Split_l0 l hl d (i + 1) j _ (by omega) (by omega) (by omega)) ?_
        rw [ht, List.drop_append_of_le_length (by simp; omega)]
        simp)
theorem spec_l1Split_f (l : List UInt8) (hl : l.length ≤ 1048576) : Ev (fun k => spec_l1Split.f k (ba l) 10) ((splitL l).map ba) := by
  unfold spec_l1Split.f
  refine ev_as (spec_l1Split_l0 l hl l.length 0 0 [] (by omega) (by omega) (by simp)) ?_
  obtain ⟨x, xs, hx⟩ := List.exists_cons_of_ne_nil (splitL_ne l)
  simp [hx]
theorem splitL_size : ∀ (l : List UInt8), (splitL l).length ≤ l.length + 1
  | [] => by simp [splitL]
  | c :: t => by
      have ih := splitL_size t
      rw [splitL]
      split
      · simp; omega
      · simp; omega

/-! #### ParseFloor -/
/-- A letter's kind, -1 for any other letter. -/
def markB (c : UInt8) : Int := Lib.indexByte [35, 46, 112, 115, 99] c
theorem markB_eq (c : UInt8) : markB c = if c = 35 then 0 else if c = 46 then 1 else if c = 112 then 2 else if c = 115 then 3 else if c = 99 then 4 else -1 := by
  by_cases h1 : c = 35
  · subst h1; rfl
  by_cases h2 : c = 46
  · subst h2; rfl
  by_cases h3 : c = 112
  · subst h3; rfl
  by_cases h4 : c = 115
  · subst h4; rfl
  by_cases h5 : c = 99
  · subst h5; rfl
  rw [if_neg h1, if_neg h2, if_neg h3, if_neg h4, if_neg h5]
  unfold markB
  have g1 : ((35 : UInt8) == c) = false := beq_eq_false_iff_ne.2 (fun e => h1 e.symm)
  have g2 : ((46 : UInt8) == c) = false := beq_eq_false_iff_ne.2 (fun e => h2 e.symm)
  have g3 : ((112 : UInt8) == c) = false := beq_eq_false_iff_ne.2 (fun e => h3 e.symm)
  have g4 : ((115 : UInt8) == c) = false := beq_eq_false_iff_ne.2 (fun e => h4 e.symm)
  have g5 : ((99 : UInt8) == c) = false := beq_eq_false_iff_ne.2 (fun e => h5 e.symm)
  simp only [Lib.indexByte, g1, g2, g3, g4, g5]
  rfl
theorem byte_eq {c d : UInt8} : ((d.toNat : Int) = (c.toNat : Int)) ↔ c = d := by
  constructor
  · intro h; exact (UInt8.toNat_inj.1 (by omega)).symm
  · rintro rfl; rfl
theorem spec_l1Mark_f (c : UInt8) : Ev (fun k => spec_l1Mark.f k (c.toNat : Int)) (markB c) := by
  unfold spec_l1Mark.f
  rw [markB_eq]
  have w0 : wrap64 ((0 : Int) + 1) = 1 := by unfold wrap64; omega
  have w1 : wrap64 ((1 : Int) + 1) = 2 := by unfold wrap64; omega
  have w2 : wrap64 ((2 : Int) + 1) = 3 := by unfold wrap64; omega
  have w3 : wrap64 ((3 : Int) + 1) = 4 := by unfold wrap64; omega
  have w4 : wrap64 ((4 : Int) + 1) = 5 := by unfold wrap64; omega
  have b0 : bt (⟨#[35, 46, 112, 115, 99]⟩ : ByteArray) 0 = (((35 : UInt8).toNat : Nat) : Int) := rfl
  have b1 : bt (⟨#[35, 46, 112, 115, 99]⟩ : ByteArray) 1 = (((46 : UInt8).toNat : Nat) : Int) := rfl
  have b2 : bt (⟨#[35, 46, 112, 115, 99]⟩ : ByteArray) 2 = (((112 : UInt8).toNat : Nat) : Int) := rfl
  have b3 : bt (⟨#[35, 46, 112, 115, 99]⟩ : ByteArray) 3 = (((115 : UInt8).toNat : Nat) : Int) := rfl
  have b4 : bt (⟨#[35, 46, 112, 115, 99]⟩ : ByteArray) 4 = (((99 : UInt8).toNat : Nat) : Int) := rfl
  refine Ev.unroll ?_
  simp only [spec_l1Mark.l0, w0, b0, byte_eq]
  refine Ev.ifp (by omega) (Ev.ifp (by omega) (ev_ite (fun _ => Ev.now _) fun _ => Ev.unroll ?_))
  simp only [spec_l1Mark.l0, w1, b1, byte_eq]
  refine Ev.ifp (by omega) (Ev.ifp (by omega) (ev_ite (fun _ => Ev.now _) fun _ => Ev.unroll ?_))
  simp only [spec_l1Mark.l0, w2, b2, byte_eq]
  refine Ev.ifp (by omega) (Ev.ifp (by omega) (ev_ite (fun _ => Ev.now _) fun _ => Ev.unroll ?_))
  simp only [spec_l1Mark.l0, w3, b3, byte_eq]
  refine Ev.ifp (by omega) (Ev.ifp (by omega) (ev_ite (fun _ => Ev.now _) fun _ => Ev.unroll ?_))
  simp only [spec_l1Mark.l0, w4, b4, byte_eq]
  refine Ev.ifp (by omega) (Ev.ifp (by omega) (ev_ite (fun _ => Ev.now _) fun _ => Ev.unroll ?_))
  simp only [spec_l1Mark.l0]
  exact Ev.ifn (by omega) (Ev.now _)
theorem strings_IndexByte_mark (c : UInt8) : strings_IndexByte.f (⟨#[35, 46, 112, 115, 99]⟩ : ByteArray) (c.toNat : Int) = some (markB c) := by
  unfold strings_IndexByte.f stringslite_IndexByte.f
  rw [some_bind, Int.toNat_natCast]
  have e : c.toNat.toUInt8 = c := by simp
  rw [e]; rfl
/-- The kinds of a line; nothing where a letter is none of them. -/
def marksOf : List UInt8 → Option (List Int)
  | [] => some []
  | c :: t => if markB c < 0 then none else (marksOf t).map (markB c :: ·)
theorem marksOf_length : ∀ (l : List UInt8) (ms : List Int), marksOf l = some ms → ms.length = l.length
  | [], ms, h => by simp only [marksOf, Option.some.injEq] at h; rw [← h]; rfl
  | c :: t, ms, h => by
      rw [marksOf] at h
      by_cases hc : markB c < 0
      · rw [if_pos hc] at h; exact absurd h (by simp)
      · rw [if_neg hc] at h
        obtain ⟨m2, h1, h2⟩ := Option.map_eq_some_iff.1 h
        rw [← h2, List.length_cons, List.length_cons, marksOf_length t m2 h1]
/-- What a row's reader tells. -/
def rowOf (l : List UInt8) : List Int × Bool := match marksOf l with | none => ([], false) | some ms => (ms, inB ms.length 1 10)
theorem impl_row_l0 (l : List UInt8) (hl : l.length ≤ 1048576) : ∀ (d i : Nat) (acc : List Int), i + d = l.length → acc.length ≤ i → Ev (fun k => impl_row.l0 k (ba l) acc l.length i) (match marksOf (l.drop i) with | none => ([], false) | some ms => (acc ++ ms, inB ((acc ++ ms).length : Nat) 1 10))
  | 0, i, acc, e, ha => Ev.unroll (by
      simp only [impl_row.l0, impl_in_f, some_bind]
      refine Ev.ifn (by omega) (Ev.fin ?_)
      rw [drop_end (by omega)]
      simp [marksOf])
  | d + 1, i, acc, e, ha => Ev.unroll (by
      have hi : i < l.length := by omega
      have hg : l.getD i 0 = l[i] := getD_at hi
      simp only [impl_row.l0, ba_bt, hg, strings_IndexByte_mark, some_bind, ba_size, wrap_sc (show i < 9223372036854775807 by omega)]
      rw [drop_cons hi, marksOf]
      refine Ev.ifp (by omega) (Ev.ifp (by omega) (Ev.ifp (by omega) ?_))
      by_cases hm : markB l[i] < 0
      · rw [if_pos hm]
        exact Ev.ifp hm (Ev.now _)
      · rw [if_neg hm]
        refine Ev.ifn hm (Ev.ifp (by omega) ?_)
        refine ev_as (impl_row_l0 l hl d (i + 1) _ (by omega) (by rw [List.length_append]; simp only [List.length_cons, List.length_nil]; omega)) ?_
        cases marksOf (l.drop (i + 1)) with
        | none => rfl
        | some ms => simp)
theorem impl_row_f (l : List UInt8) (hl : l.length ≤ 1048576) : Ev (fun k => impl_row.f k (ba l)) (rowOf l) := by
  unfold impl_row.f rowOf
  refine ev_as (impl_row_l0 l hl l.length 0 [] (by omega) (by simp)) ?_
  rw [List.drop_zero]
  cases marksOf l with
  | none => rfl
  | some ms => rfl
/-- A floor of its text, from line n on. -/
def parseL : Nat → List UInt8 → Nat → Int → List Int → Int × Int × List Int × Int
  | 0, _, n, _, _ => (0, 0, [], (n : Int))
  | d + 1, l, n, W, cs => if l = [] ∧ n ≠ 0 then (W, (n : Int), cs, -1) else match cutL l with
    | none => (0, 0, [], (n : Int))
    | some (a, b) => match marksOf a with
      | none => (0, 0, [], (n : Int))
      | some ms => if inB ms.length 1 10 = true ∧ n ≠ 10 ∧ (n = 0 ∨ (ms.length : Int) = W) then parseL d b (n + 1) ms.length (cs ++ ms) else (0, 0, [], (n : Int))
theorem impl_ParseFloor_l0 : ∀ (d : Nat) (l : List UInt8) (n : Nat) (W : Int) (cs : List Int), l.length < d → l.length ≤ 1048576 → n ≤ 10 → cs.length ≤ 10 * n → Ev (fun k => impl_ParseFloor.l0 k (ba l) n W 0 cs) (parseL d l n W cs)
  | 0, l, n, W, cs, h, _, _, _ => by omega
  | d + 1, l, n, W, cs, h, hl, hn, hc => Ev.unroll (by
      simp only [impl_ParseFloor.l0, ba_toList]
      rw [parseL]
      have run : ¬ (l = [] ∧ n ≠ 0) → Ev (fun k => impl_ParseFloor.j1 k (ba l) n true W 0 cs) (match cutL l with
          | none => (0, 0, [], (n : Int))
          | some (a, b) => match marksOf a with
            | none => (0, 0, [], (n : Int))
            | some ms => if inB ms.length 1 10 = true ∧ n ≠ 10 ∧ (n = 0 ∨ (ms.length : Int) = W) then parseL d b (n + 1) ms.length (cs ++ ms) else (0, 0, [], (n : Int))) := fun _ => Ev.unroll (by
        simp only [impl_ParseFloor.j1, strings_Cut_f l hl, some_bind, if_true]
        cases hq : cutL l with
        | none =>
          simp only [Bool.false_eq_true, if_false]
          exact Ev.bind (impl_row_f l hl) (Ev.now _)
        | some p =>
          obtain ⟨a, b⟩ := p
          obtain ⟨_, e⟩ := splitL_some l a b hq
          have hz : l.length = a.length + b.length + 1 := by rw [e]; simp; omega
          simp only [if_true]
          refine Ev.bind (impl_row_f a (by omega)) ?_
          unfold rowOf
          cases hm : marksOf a with
          | none => simp only [Bool.false_eq_true, if_false]; exact Ev.now _
          | some ms =>
            have hml := marksOf_length a ms hm
            simp only
            by_cases h1 : inB (ms.length : Nat) 1 10 = true
            · have h1' := inB_iff.1 h1
              refine Ev.ifp h1 ?_
              by_cases h2 : n = 10
              · refine Ev.ifp (by omega) ?_
                rw [if_neg (fun q => q.2.1 h2)]; exact Ev.now _
              · refine Ev.ifn (by omega) ?_
                have e1 : wrap64 ((n : Int) + 1) = ((n + 1 : Nat) : Int) := wrap_sc (by omega)
                simp only [e1]
                have go : Ev (fun k => impl_ParseFloor.l0 k (ba b) ((n + 1 : Nat) : Int) (ms.length : Int) 0 (cs ++ ms)) (parseL d b (n + 1) ms.length (cs ++ ms)) := impl_ParseFloor_l0 d b (n + 1) ms.length (cs ++ ms) (by omega) (by omega) (by omega) (by rw [List.length_append]; omega)
                by_cases h3 : n = 0
                · rw [if_pos ⟨h1, h2, Or.inl h3⟩]
                  exact Ev.ifn (by omega) (Ev.ifp (by omega) go)
                · refine Ev.ifp (by omega) ?_
                  by_cases h4 : (ms.length : Int) = W
                  · rw [if_pos ⟨h1, h2, Or.inr h4⟩]
                    exact Ev.ifp h4 (Ev.ifp (by omega) go)
                  · rw [if_neg (fun q => q.2.2.elim h3 h4)]
                    exact Ev.ifn h4 (Ev.now _)
            · rw [if_neg (fun q => h1 q.1)]
              exact Ev.ifn h1 (Ev.now _))
      by_cases h0 : l = []
      · refine Ev.ifp h0 ?_
        by_cases hn0 : n = 0
        · rw [if_neg (fun q => q.2 hn0)]
          have e2 : ((n : Int) == 0) = true := by rw [hn0]; rfl
          rw [e2]; exact run (fun q => q.2 hn0)
        · rw [if_pos ⟨h0, hn0⟩]
          have e2 : ((n : Int) == 0) = false := by rw [beq_eq_false_iff_ne]; omega
          rw [e2]
          exact Ev.unroll (by simp only [impl_ParseFloor.j1, Bool.false_eq_true, if_false]; exact Ev.now _)
      · refine Ev.ifn h0 ?_
        rw [if_neg (fun q => h0 q.1)]
        exact run (fun q => h0 q.1))

theorem spec_ParseFloor_l1 (ls : List ByteArray) (i : Nat) (a : List UInt8) (W H : Int) (hi : i < ls.length) (hl : rdOf ByteArray.empty ls (i : Int) = ba a) (ha : a.length ≤ 1048576) (w1 : wrap64 ((i : Int) + 1) = ((i + 1 : Nat) : Int)) (w2 : wrap64 (H + 1) = H + 1) (R : List Int → Int × Int × List Int × Int) : ∀ (d j : Nat) (acc : List Int), j + d = a.length → acc.length ≤ 1048576 + j → (∀ ms, marksOf (a.drop j) = some ms → Ev (fun k => spec_ParseFloor.l0 k ls ((i + 1 : Nat) : Int) W (H + 1) (acc ++ ms)) (R (acc ++ ms))) → Ev (fun k => spec_ParseFloor.l1 k ls i j W H acc) (match marksOf (a.drop j) with | none => (0, 0, [], (i : Int)) | some ms => R (acc ++ ms))
  | 0, j, acc, e, hc, ht => Ev.unroll (by
      simp only [spec_ParseFloor.l1, hl, ba_size, w1, w2]
      rw [drop_end (by omega)] at ht ⊢
      refine Ev.ifp (by omega) (Ev.ifp (by omega) (Ev.ifn (by omega) ?_))
      have h := ht [] rfl
      rw [List.append_nil] at h
      exact ev_as h (by simp [marksOf]))
  | d + 1, j, acc, e, hc, ht => Ev.unroll (by
      have hj : j < a.length := by omega
      have hg : a.getD j 0 = a[j] := getD_at hj
      simp only [spec_ParseFloor.l1, hl, ba_size, ba_bt, hg, w1, w2, wrap_sc (show j < 9223372036854775807 by omega)]
      rw [drop_cons hj, marksOf] at ht ⊢
      refine Ev.ifp (by omega) (Ev.ifp (by omega) (Ev.ifp (by omega) (Ev.ifp (by omega) (Ev.bind (spec_l1Mark_f a[j]) ?_))))
      by_cases hm : markB a[j] < 0
      · rw [if_pos hm]
        exact Ev.ifp hm (Ev.now _)
      · rw [if_neg hm] at ht ⊢
        refine Ev.ifn hm (Ev.ifp (by omega) ?_)
        refine ev_as (spec_ParseFloor_l1 ls i a W H hi hl ha w1 w2 R d (j + 1) (acc ++ [markB a[j]]) (by omega) (by rw [List.length_append]; simp only [List.length_cons, List.length_nil]; omega) (fun ms hms => ?_)) ?_
        · have h := ht (markB a[j] :: ms) (by rw [hms]; rfl)
          rw [List.append_assoc]
          exact h
        · cases marksOf (a.drop (j + 1)) with
          | none => rfl
          | some ms => simp)
theorem rdOf_drop {ls : List ByteArray} {i : Nat} {x : ByteArray} {xs : List ByteArray} (h : ls.drop i = x :: xs) : rdOf ByteArray.empty ls (i : Int) = x ∧ ls.drop (i + 1) = xs ∧ ls.length = i + 1 + xs.length := by
  have h1 : i < ls.length := by
    by_cases q : i < ls.length
    · exact q
    · rw [drop_end (by omega)] at h; exact absurd h (by simp)
  rw [drop_cons h1] at h
  injection h with e1 e2
  refine ⟨?_, e2, ?_⟩
  · unfold rdOf; rw [Int.toNat_natCast, getD_at h1, e1]
  · have := congrArg List.length e2
    rw [List.length_drop] at this; omega
theorem spec_ParseFloor_l0 (ls : List ByteArray) (hls : ls.length ≤ 1048577) : ∀ (d : Nat) (l : List UInt8) (i : Nat) (W : Int) (cs : List Int), l.length < d → l.length ≤ 1048576 → i ≤ 10 → cs.length ≤ 10 * i → ls.drop i = (splitL l).map ba → (i = 0 → W = ((splitL l).headD []).length) → Ev (fun k => spec_ParseFloor.l0 k ls i W i cs) (parseL d l i W cs)
  | 0, l, i, W, cs, h, _, _, _, _, _ => by omega
  | d + 1, l, i, W, cs, h, hl, hi, hc, hd, hw => Ev.unroll (by
      have w1 : wrap64 ((i : Int) + 1) = ((i + 1 : Nat) : Int) := wrap_sc (by omega)
      have w3 : wrap64 ((ls.length : Int) - 1) = (ls.length : Int) - 1 := wrap_id (by omega) (by omega)
      simp only [spec_ParseFloor.l0, w3]
      rw [parseL]
      cases hq : cutL l with
      | none =>
        rw [splitL_none l hq] at hd hw
        obtain ⟨h1, h2, h3⟩ := rdOf_drop hd
        have hlast : (i : Int) = (ls.length : Int) - 1 := by simp at h3; omega
        simp only [h1, ba_toList]
        refine Ev.ifp (by omega) (Ev.ifp hlast (Ev.ifp (by omega) ?_))
        have eb : ((i : Int) == (ls.length : Int) - 1) = true := beq_iff_eq.2 hlast
        rw [eb]
        by_cases h0 : l = []
        · refine Ev.ifp h0 (Ev.unroll ?_)
          simp only [spec_ParseFloor.j1]
          by_cases hi0 : i = 0
          · rw [if_neg (fun q => q.2 hi0)]
            refine Ev.ifn (by simp; omega) (Ev.ifp (by trivial) (Ev.unroll ?_))
            simp only [spec_ParseFloor.j2, if_true]
            exact Ev.now _
          · rw [if_pos ⟨h0, hi0⟩]
            exact Ev.ifp (by simp; omega) (Ev.now _)
        · rw [if_neg (fun q => h0 q.1)]
          refine Ev.ifn h0 (Ev.unroll ?_)
          simp only [spec_ParseFloor.j1, Bool.false_eq_true, if_false, if_true]
          refine Ev.unroll ?_
          simp only [spec_ParseFloor.j2, if_true]
          exact Ev.now _
      | some p =>
        obtain ⟨a, b⟩ := p
        obtain ⟨es, el⟩ := splitL_some l a b hq
        have hz : l.length = a.length + b.length + 1 := by rw [el]; simp; omega
        rw [es] at hd hw
        obtain ⟨h1, h2, h3⟩ := rdOf_drop hd
        obtain ⟨y, ys, hy⟩ := List.exists_cons_of_ne_nil (splitL_ne b)
        have h4 : 1 ≤ ((splitL b).map ba).length := by rw [hy]; simp
        have hlast : ¬ (i : Int) = (ls.length : Int) - 1 := by omega
        have eb : ((i : Int) == (ls.length : Int) - 1) = false := beq_eq_false_iff_ne.2 hlast
        have hne : l ≠ [] := by intro q; rw [q] at hz; simp at hz
        rw [if_neg (fun q => hne q.1), eb]
        refine Ev.ifp (by omega) (Ev.ifn hlast (Ev.unroll ?_))
        simp only [spec_ParseFloor.j1, Bool.false_eq_true, if_false, h1, ba_size, spec_l1In_f, some_bind]
        have bad : ∀ (c : Prop) [Decidable c] (x : List Int → Int × Int × List Int × Int), (∀ ms, marksOf a = some ms → ¬ c) → (match marksOf a with | none => ((0 : Int), (0 : Int), ([] : List Int), (i : Int)) | some ms => if c then x ms else (0, 0, [], (i : Int))) = (0, 0, [], (i : Int)) := by
          intro c _ x hb
          cases hm : marksOf a with
          | none => rfl
          | some ms => exact if_neg (hb ms hm)
        by_cases h10 : (i : Int) = 10
        · refine Ev.ifp h10 (Ev.unroll ?_)
          simp only [spec_ParseFloor.j2, if_true]
          refine Ev.fin ?_
          cases hm : marksOf a with
          | none => rfl
          | some ms => exact (if_neg (fun q => q.2.1 (by omega))).symm
        · refine Ev.ifn h10 (Ev.ifp (by omega) (Ev.ifp (by omega) ?_))
          by_cases h5 : inB (a.length : Nat) 1 10 = true
          · refine Ev.ifp h5 (Ev.unroll ?_)
            simp only [spec_ParseFloor.j2]
            have h5' := inB_iff.1 h5
            by_cases h6 : (a.length : Int) = W
            · refine Ev.ifn (by simp [h6]) ?_
              have w2 : wrap64 ((i : Int) + 1) = (i : Int) + 1 := wrap_id (by omega) (by omega)
              refine ev_as (spec_ParseFloor_l1 ls i a W i (by omega) h1 (by omega) w1 w2 (fun cs' => parseL d b (i + 1) W cs') a.length 0 cs (by omega) (by omega) (fun ms hms => ?_)) ?_
              · rw [List.drop_zero] at hms
                have hml := marksOf_length a ms hms
                exact spec_ParseFloor_l0 ls hls d b (i + 1) W (cs ++ ms) (by omega) (by omega) (by omega) (by rw [List.length_append]; omega) h2 (by omega)
              · rw [List.drop_zero]
                cases hm : marksOf a with
                | none => rfl
                | some ms =>
                  have hml := marksOf_length a ms hm
                  simp only
                  rw [if_pos ⟨by rw [hml]; exact h5, by omega, Or.inr (by rw [hml]; exact h6)⟩, hml, h6]
            · refine Ev.ifp (by simp [h6]) (Ev.fin ?_)
              cases hm : marksOf a with
              | none => rfl
              | some ms =>
                have hml := marksOf_length a ms hm
                refine (if_neg (fun q => ?_)).symm
                rcases q.2.2 with q | q
                · have := hw q; simp at this; omega
                · omega
          · refine Ev.ifn h5 (Ev.unroll ?_)
            simp only [spec_ParseFloor.j2, if_true]
            refine Ev.fin ?_
            cases hm : marksOf a with
            | none => rfl
            | some ms => exact (if_neg (fun q => h5 (by rw [← marksOf_length a ms hm]; exact q.1))).symm)
theorem impl_ParseFloor_f (s : ByteArray) (hs : s.size ≤ 1048576) : Ev (fun k => impl_ParseFloor.f k s) (parseL (s.data.toList.length + 1) s.data.toList 0 0 []) := by
  unfold impl_ParseFloor.f
  exact impl_ParseFloor_l0 (s.data.toList.length + 1) s.data.toList 0 0 [] (by omega) hs (by omega) (by simp)
theorem parseL_zero (d : Nat) (l : List UInt8) (W W' : Int) (cs : List Int) : parseL d l 0 W cs = parseL d l 0 W' cs := by
  cases d with
  | zero => rfl
  | succ d => simp [parseL]
theorem spec_ParseFloor_f (s : ByteArray) (hs : s.size ≤ 1048576) : Ev (fun k => spec_ParseFloor.f k s) (parseL (s.data.toList.length + 1) s.data.toList 0 0 []) := by
  unfold spec_ParseFloor.f
  have hs' : s.data.toList.length ≤ 1048576 := hs
  refine Ev.bind (spec_l1Split_f s.data.toList hs') ?_
  obtain ⟨y, ys, hy⟩ := List.exists_cons_of_ne_nil (splitL_ne s.data.toList)
  have hz := splitL_size s.data.toList
  refine Ev.ifp (by rw [hy]; simp) ?_
  rw [parseL_zero _ _ 0 ((rdOf ByteArray.empty ((splitL s.data.toList).map ba) 0).size : Int)]
  exact spec_ParseFloor_l0 _ (by rw [List.length_map]; omega) (s.data.toList.length + 1) s.data.toList 0 _ [] (by omega) hs' (by omega) (by simp) (by simp) (fun _ => by rw [hy]; rfl)
/-- Cells are few. -/
theorem parseL_length : ∀ (d : Nat) (l : List UInt8) (n : Nat) (W : Int) (cs : List Int), n ≤ 10 → cs.length ≤ 10 * n → (parseL d l n W cs).2.2.1.length ≤ 100
  | 0, _, _, _, _, _, _ => by simp [parseL]
  | d + 1, l, n, W, cs, hn, hc => by
      rw [parseL]
      split
      · simp only; omega
      · cases cutL l with
        | none => simp
        | some p =>
          obtain ⟨a, b⟩ := p
          simp only
          cases marksOf a with
          | none => simp
          | some ms =>
            simp only
            by_cases h : inB (ms.length : Nat) 1 10 = true ∧ n ≠ 10 ∧ (n = 0 ∨ (ms.length : Int) = W)
            · rw [if_pos h]
              have := inB_iff.1 h.1
              exact parseL_length d b (n + 1) ms.length (cs ++ ms) (by omega) (by rw [List.length_append]; omega)
            · rw [if_neg h]; simp

/-! #### FnExactParseFloor -/
theorem FnExactParseFloor : laws_FnExactParseFloor.Pure := by
  intro s _
  refine Ev.rounds ?_
  unfold laws_FnExactParseFloor.f
  by_cases hb : (s.size : Int) > 1048576
  · simp only [if_pos hb]; exact Ev.now _
  · have hs : s.size ≤ 1048576 := by omega
    have s1 := spec_ParseFloor_f s hs
    have s2 := impl_ParseFloor_f s hs
    have hp := parseL_length (s.data.toList.length + 1) s.data.toList 0 0 [] (by omega) (by simp)
    generalize parseL (s.data.toList.length + 1) s.data.toList 0 0 [] = x at s1 s2 hp
    obtain ⟨w', h', l', q'⟩ := x
    simp only at hp
    have e1 := eqFloor_f w' h' l' (by unfold BIG; omega)
    have e2 := markFloor_f w' h' l' 1 (by unfold BIG; omega)
    have e3 := heldFloor_f w' h' 1 l'.length (by unfold BIG; omega)
    simp only [if_neg hb]
    repeat (first | exact Ev.now _ | (with_reducible refine Ev.bind (s1) ?_; try dsimp only) | (with_reducible refine Ev.bind (s2) ?_; try dsimp only) | (with_reducible refine Ev.bind (e1) ?_; try dsimp only) | (with_reducible refine Ev.bind (e2) ?_; try dsimp only) | (with_reducible refine Ev.bind (e3) ?_; try dsimp only) | (with_reducible refine Ev.ifp ?cc ?_; (case cc => first | rfl | decide | assumption | omega)) | (with_reducible refine Ev.ifn ?cc ?_; (case cc => first | decide | assumption | omega)) | simp only [bne_self_eq_false, some_bind] | (refine Ev.unroll ?_; simp only [laws_FnExactParseFloor.j0, laws_FnExactParseFloor.j1]))

end Go.Proofs.Ytmjpmekckgjcpaa.Pure
