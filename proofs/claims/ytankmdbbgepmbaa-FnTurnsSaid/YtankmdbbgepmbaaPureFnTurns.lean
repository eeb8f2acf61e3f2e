/- Proved here: the law FnTurns, over numbers and lists: for all arguments it returns true; no condition. -/
import Derived.Test.YtankmdbbgepmbaaPFnTurnsx7
namespace Go.Proofs.Ytankmdbbgepmbaa.Pure
open Go.RowKit Go.Proofs.Ytankmdbbgepmbaa.PFnTurns Go.Proofs.YtankmdbbgepmbaaW.PrintWords Go.Proofs.YtankmdbbgepmbaaW.PrintLast
set_option linter.unusedVariables false
set_option linter.unusedSimpArgs false

theorem Ev.unroll {α : Type} {g : Nat → Option α} {r : α} (h : Ev (fun k => g (k + 1)) r) : Ev g r := Ev.step (fun _ => rfl) h
theorem Ev.fin {α : Type} {r s : α} (h : r = s) : Ev (fun _ => some r) s := by rw [h]; exact Ev.now _
theorem wrap_id {x : Int} (h0 : -9223372036854775808 ≤ x) (h1 : x ≤ 9223372036854775807) : wrap64 x = x := by unfold wrap64; omega
theorem rd_nat {xs : List Int} {i : Nat} (h : i < xs.length) : rd xs (i : Int) = xs[i] := by unfold rd; simp [List.getD, h]
theorem some_bind {α β : Type} (a : α) (f : α → Option β) : (some a).bind f = f a := rfl
theorem getD_at {α : Type} {xs : List α} {d : α} {i : Nat} (h : i < xs.length) : xs.getD i d = xs[i] := by simp [List.getD, h]
def allFrom (n i : Nat) (p : Nat → Bool) : Bool := (List.range' i (n - i)).all p
theorem allFrom_iff {n i : Nat} {p : Nat → Bool} : allFrom n i p = true ↔ ∀ j, i ≤ j → j < n → p j = true := by
 unfold allFrom
 rw [List.all_eq_true]
 constructor
 ·intro h j h1 h2
  exact h j (by rw [List.mem_range'_1]; omega)
 ·intro h j hj
  rw [List.mem_range'_1] at hj
  exact h j hj.1 (by omega)
def filtFrom (n i : Nat) (p : Nat → Bool) : List Int := ((List.range' i (n - i)).filter p).map (fun j : Nat => (j : Int))
theorem filtFrom_end {n i : Nat} {p : Nat → Bool} (h : n ≤ i) : filtFrom n i p = [] := by
 unfold filtFrom
 rw [show n - i = 0 by omega]; rfl
theorem filtFrom_yes {n i : Nat} {p : Nat → Bool} (h : i < n) (hp : p i = true) : filtFrom n i p = (i : Int) :: filtFrom n (i + 1) p := by
 unfold filtFrom
 rw [show n - i = (n - (i + 1)) + 1 by omega, List.range'_succ, List.filter_cons, if_pos hp, List.map_cons]
theorem filtFrom_no {n i : Nat} {p : Nat → Bool} (h : i < n) (hp : p i = false) : filtFrom n i p = filtFrom n (i + 1) p := by
 unfold filtFrom
 rw [show n - i = (n - (i + 1)) + 1 by omega, List.range'_succ, List.filter_cons, if_neg (by rw [hp]; decide)]
theorem filtFrom_le {n i : Nat} {p : Nat → Bool} : (filtFrom n i p).length ≤ n - i := by
 unfold filtFrom
 rw [List.length_map]
 exact Nat.le_trans (List.length_filter_le _ _) (by simp)
theorem mem_filtFrom {n i : Nat} {p : Nat → Bool} {x : Int} : x ∈ filtFrom n i p ↔ ∃ j : Nat, i ≤ j ∧ j < n ∧ p j = true ∧ x = (j : Int) := by
 unfold filtFrom
 simp only [List.mem_map, List.mem_filter, List.mem_range'_1]
 constructor
 ·rintro ⟨j, ⟨⟨h1, h2⟩, h3⟩, rfl⟩; exact ⟨j, h1, by omega, h3, rfl⟩
 ·rintro ⟨j, h1, h2, h3, rfl⟩; exact ⟨j, ⟨⟨h1, by omega⟩, h3⟩, rfl⟩
theorem wrap_sc {i : Nat} (h : i < 9223372036854775807) : wrap64 ((i : Int) + 1) = ((i + 1 : Nat) : Int) := by unfold wrap64; omega
theorem rd_nat' {xs : List Int} {i : Nat} : rd xs (i : Int) = xs.getD i 0 := by unfold rd; rw [Int.toNat_natCast]
theorem Ev.ifp {α : Type} {c : Prop} [Decidable c] {g h : Nat → Option α} {r : α} (hc : c) (e : Ev g r) : Ev (fun k => if c then g k else h k) r := by simp only [if_pos hc]; exact e
theorem Ev.ifn {α : Type} {c : Prop} [Decidable c] {g h : Nat → Option α} {r : α} (hc : ¬ c) (e : Ev h r) : Ev (fun k => if c then g k else h k) r := by simp only [if_neg hc]; exact e
theorem ev_ite' {α : Type} {c : Prop} [Decidable c] {g h : Nat → Option α} {r : α} (h1 : c → Ev g r) (h2 : ¬ c → Ev h r) : Ev (fun k => if c then g k else h k) r := by
 by_cases hc : c
 ·simp only [if_pos hc]; exact h1 hc
 ·simp only [if_neg hc]; exact h2 hc

def insRev (lt : Int → Int → Bool) (x : Int) : List Int → List Int
 | [] => [x]
 | y :: r => if lt x y = true then y :: insRev lt x r else x :: y :: r
def sortRev (lt : Int → Int → Bool) (r : List Int) (xs : List Int) : List Int := xs.foldl (fun r x => insRev lt x r) r
def sortF (lt : Int → Int → Bool) (xs : List Int) : List Int := (sortRev lt [] xs).reverse
theorem getB {xs : List Int} {j : Nat} (h : j < xs.length) : xs.toArray[j]! = xs[j] := by
 rw [getElem!_def]; simp [h]
theorem insInner_list (lt : Int → Int → Bool) (x : Int) : ∀ (j : Nat) (A B : List Int), A.length = j → (Sort.insInner lt 0 j (A ++ x :: B).toArray) = ((insRev lt x A.reverse).reverse ++ B).toArray
 | 0, A, B, h => by
  obtain rfl := List.length_eq_zero_iff.1 h
  rfl
 | j + 1, A, B, h => by
  obtain ⟨A', y, rfl⟩ : ∃ A' y, A = A' ++ [y] := ⟨A.dropLast, A.getLast (by intro e; rw [e] at h; simp at h), (List.dropLast_concat_getLast _).symm⟩
  have hl : A'.length = j := by simp at h; omega
  have e1 : ((A' ++ [y]) ++ x :: B).toArray[j + 1]! = x := by rw [getB (by simp; omega)]; rw [List.getElem_append_right (by simp; omega)]; simp [hl]
  have e2 : ((A' ++ [y]) ++ x :: B).toArray[j]! = y := by rw [getB (by simp; omega)]; rw [List.getElem_append_left (by simp; omega), List.getElem_append_right (by omega)]; simp [hl]
  unfold Sort.insInner
  rw [e1, e2, List.reverse_append, List.reverse_singleton, List.singleton_append]
  simp only [insRev]
  by_cases hlt : lt x y = true
  ·rw [if_pos (by simp [hlt]), if_pos hlt]
   have es : Sort.swp ((A' ++ [y]) ++ x :: B).toArray (j + 1) j = (A' ++ x :: (y :: B)).toArray := by
    unfold Sort.swp
    rw [e1, e2]
    simp only [List.setIfInBounds_toArray]
    congr 1
    rw [List.set_append_right _ _ (by simp; omega)]
    rw [show j + 1 - (A' ++ [y]).length = 0 by simp; omega, List.set_cons_zero, List.append_assoc, List.set_append_right _ _ (by omega), show j - A'.length = 0 by omega]
    rfl
   rw [es, insInner_list lt x j A' (y :: B) hl]
   simp
  ·rw [if_neg (by simp [hlt]), if_neg hlt]
   simp
theorem insOuter_list (lt : Int → Int → Bool) : ∀ (d i : Nat) (r B : List Int), r.length = i → B.length = d → Sort.insOuter lt 0 (i + d) i (r.reverse ++ B).toArray = ((sortRev lt r B).reverse).toArray
 | 0, i, r, B, h, hB => by
  obtain rfl := List.length_eq_zero_iff.1 hB
  unfold Sort.insOuter
  rw [if_neg (by omega), List.append_nil]; rfl
 | d + 1, i, r, B, h, hB => by
  match B, hB with
  | x :: B, hB =>
   have hB : B.length = d := by simpa using hB
   unfold Sort.insOuter
   rw [if_pos (by omega), insInner_list lt x i r.reverse B (by simpa using h), List.reverse_reverse]
   have hl : (insRev lt x r).length = i + 1 := by
    have key : ∀ r : List Int, (insRev lt x r).length = r.length + 1 := by
     intro r
     induction r with
     | nil => rfl
     | cons y r ih => unfold insRev; split <;> simp [ih]
    rw [key, h]
   have := insOuter_list lt d (i + 1) (insRev lt x r) B hl hB
   rw [show i + (d + 1) = i + 1 + d by omega, this]
   rfl
theorem sortL_eq (lt : Int → Int → Bool) (xs : List Int) : sortL lt xs = sortF lt xs := by
 unfold sortL sortF Sort.insertionSort
 match xs with
 | [] =>
  unfold Sort.insOuter
  rfl
 | x :: xs =>
  have := insOuter_list lt xs.length 1 [x] xs rfl rfl
  rw [show (x :: xs).length = 1 + xs.length by simp; omega, show (0 + 1) = 1 from rfl, show (x :: xs) = [x].reverse ++ xs from rfl, this]
  rfl
theorem insRev_mem {lt : Int → Int → Bool} {x z : Int} : ∀ {r : List Int}, z ∈ insRev lt x r ↔ z = x ∨ z ∈ r
 | [] => by simp [insRev]
 | y :: r => by
  unfold insRev
  split
  ·rw [List.mem_cons, insRev_mem, List.mem_cons]
   constructor
   ·rintro (h | h | h)
    ·exact Or.inr (Or.inl h)
    ·exact Or.inl h
    ·exact Or.inr (Or.inr h)
   ·rintro (h | h | h)
    ·exact Or.inr (Or.inl h)
    ·exact Or.inl h
    ·exact Or.inr (Or.inr h)
  ·simp
theorem insRev_length {lt : Int → Int → Bool} {x : Int} : ∀ {r : List Int}, (insRev lt x r).length = r.length + 1
 | [] => rfl
 | y :: r => by unfold insRev; split <;> simp [insRev_length]
theorem insRev_nodup {lt : Int → Int → Bool} {x : Int} : ∀ {r : List Int}, r.Nodup → x ∉ r → (insRev lt x r).Nodup
 | [], _, _ => by simp [insRev]
 | y :: r, h, hx => by
  rw [List.nodup_cons] at h
  rw [List.mem_cons, not_or] at hx
  unfold insRev
  split
  ·rw [List.nodup_cons, insRev_mem]
   exact ⟨fun e => by rcases e with e | e; exact hx.1 e.symm; exact h.1 e, insRev_nodup h.2 hx.2⟩
  ·rw [List.nodup_cons, List.mem_cons, not_or]
   exact ⟨hx, List.nodup_cons.2 h⟩
theorem insRev_sorted {lt : Int → Int → Bool} (has : ∀ a b, lt a b = true → lt b a = false) (hnt : ∀ a b c, lt a b = false → lt b c = false → lt a c = false) {x : Int} : ∀ {r : List Int}, r.Pairwise (fun a b => lt a b = false) → (insRev lt x r).Pairwise (fun a b => lt a b = false)
 | [], _ => by simp [insRev]
 | y :: r, h => by
  rw [List.pairwise_cons] at h
  unfold insRev
  by_cases hx : lt x y = true
  ·rw [if_pos hx, List.pairwise_cons]
   refine ⟨fun b hb => ?_, insRev_sorted has hnt h.2⟩
   rw [insRev_mem] at hb
   rcases hb with rfl | hb
   ·exact has _ _ hx
   ·exact h.1 b hb
  ·rw [Bool.not_eq_true] at hx
   rw [if_neg (by rw [hx]; decide), List.pairwise_cons, List.pairwise_cons]
   refine ⟨fun b hb => ?_, h⟩
   rw [List.mem_cons] at hb
   rcases hb with rfl | hb
   ·exact hx
   ·exact hnt _ _ _ hx (h.1 b hb)
theorem sortRev_facts {lt : Int → Int → Bool} (has : ∀ a b, lt a b = true → lt b a = false) (hnt : ∀ a b c, lt a b = false → lt b c = false → lt a c = false) : ∀ (xs r : List Int), r.Pairwise (fun a b => lt a b = false) →
  (sortRev lt r xs).Pairwise (fun a b => lt a b = false) ∧ (sortRev lt r xs).length = r.length + xs.length ∧ (∀ z, z ∈ sortRev lt r xs ↔ z ∈ r ∨ z ∈ xs) ∧ (r.Nodup → xs.Nodup → (∀ z, z ∈ r → z ∉ xs) → (sortRev lt r xs).Nodup)
 | [], r, h => ⟨h, rfl, fun z => by simp [sortRev], fun h _ _ => h⟩
 | x :: xs, r, h => by
  obtain ⟨h1, h2, h3, h4⟩ := sortRev_facts has hnt xs (insRev lt x r) (insRev_sorted has hnt h)
  refine ⟨h1, ?_, fun z => ?_, fun hr hx hd => ?_⟩
  ·show (sortRev lt (insRev lt x r) xs).length = _
   rw [h2, insRev_length, List.length_cons]; omega
  ·show z ∈ sortRev lt (insRev lt x r) xs ↔ _
   rw [h3, insRev_mem, List.mem_cons]
   constructor
   ·rintro ((h | h) | h)
    ·exact Or.inr (Or.inl h)
    ·exact Or.inl h
    ·exact Or.inr (Or.inr h)
   ·rintro (h | h | h)
    ·exact Or.inl (Or.inr h)
    ·exact Or.inl (Or.inl h)
    ·exact Or.inr h
  ·rw [List.nodup_cons] at hx
   refine h4 (insRev_nodup hr (fun e => hd x e (List.mem_cons_self ..))) hx.2 (fun z hz => ?_)
   rw [insRev_mem] at hz
   rcases hz with rfl | hz
   ·exact hx.1
   ·exact fun e => hd z hz (List.mem_cons_of_mem _ e)
structure Sorted (lt : Int → Int → Bool) (xs l : List Int) : Prop where
 ord : l.Pairwise (fun a b => lt b a = false)
 len : l.length = xs.length
 mem : ∀ z, z ∈ l ↔ z ∈ xs
 nodup : xs.Nodup → l.Nodup
theorem sortF_sorted {lt : Int → Int → Bool} (has : ∀ a b, lt a b = true → lt b a = false) (hnt : ∀ a b c, lt a b = false → lt b c = false → lt a c = false) (xs : List Int) : Sorted lt xs (sortF lt xs) := by
 obtain ⟨h1, h2, h3, h4⟩ := sortRev_facts has hnt xs [] List.Pairwise.nil
 unfold sortF
 refine ⟨List.pairwise_reverse.2 h1, by rw [List.length_reverse, h2]; simp, fun z => by rw [List.mem_reverse, h3]; simp, fun h => ?_⟩
 have := h4 List.nodup_nil h (fun z hz => by cases hz)
 unfold List.Nodup at this ⊢
 rw [List.pairwise_reverse]
 exact this.imp (fun h e => h e.symm)
def inB (a b c : Int) : Bool := decide (b ≤ a ∧ a ≤ c)
theorem inB_iff {a b c : Int} : inB a b c = true ↔ b ≤ a ∧ a ≤ c := by unfold inB; exact decide_eq_true_iff
def kindsOk (cs : List Int) (i : Nat) : Bool := allFrom cs.length i (fun j => inB (cs.getD j 0) 0 4)
def floorOk (w h : Int) (cs : List Int) : Bool := inB w 1 10 && inB h 1 10 && decide ((cs.length : Int) = w * h) && kindsOk cs 0
structure Fits (w h c : Int) : Prop where
 w1 : 1 ≤ w
 w2 : w ≤ 10
 h1 : 1 ≤ h
 h2 : h ≤ 10
 c1 : 0 ≤ c
 c2 : c < w * h
theorem Fits.area {w h c : Int} (f : Fits w h c) : w * h ≤ 100 := by
 have e2 : w * h ≤ 10 * 10 := Int.mul_le_mul f.w2 f.h2 (by have := f.h1; omega) (by omega)
 omega
def robAt (l : List S37) (j : Nat) : S37 := l.getD j z37
def cellB (cs : List Int) (c : Int) : Bool := inB c 0 ((cs.length : Int) - 1) && !decide (rd cs c = 0)
theorem wrap_pr {i : Nat} (h : i < 9223372036854775807) (h0 : 0 < i) : wrap64 ((i : Int) - 1) = ((i - 1 : Nat) : Int) := by unfold wrap64; omega
theorem turnsLt_eq (l : List S37) (a b : Int) : turnsLt l a b = true ↔ (rd_T37 l a).f4 > (rd_T37 l b).f4 ∨ ((rd_T37 l a).f4 = (rd_T37 l b).f4 ∧ (rd_T37 l a).f0 < (rd_T37 l b).f0) := by
 unfold turnsLt
 rw [Bool.or_eq_true, Bool.and_eq_true, decide_eq_true_eq, decide_eq_true_eq, decide_eq_true_eq]
theorem turnsLt_no (l : List S37) (a b : Int) : turnsLt l a b = false ↔ ¬ ((rd_T37 l a).f4 > (rd_T37 l b).f4 ∨ ((rd_T37 l a).f4 = (rd_T37 l b).f4 ∧ (rd_T37 l a).f0 < (rd_T37 l b).f0)) := by
 rw [← turnsLt_eq, Bool.not_eq_true]
theorem turns_as (l : List S37) (a b : Int) : turnsLt l a b = true → turnsLt l b a = false := by
 rw [turnsLt_eq, turnsLt_no]; omega
theorem turns_nt (l : List S37) (a b c : Int) : turnsLt l a b = false → turnsLt l b c = false → turnsLt l a c = false := by
 rw [turnsLt_no, turnsLt_no, turnsLt_no]; omega
theorem upto_mem' {n : Nat} {x : Int} : x ∈ upto n ↔ 0 ≤ x ∧ x < (n : Int) := by
 unfold upto
 rw [List.mem_map]
 constructor
 ·rintro ⟨i, hi, rfl⟩
  have := List.mem_range.1 hi
  omega
 ·rintro ⟨h0, h1⟩
  exact ⟨x.toNat, List.mem_range.2 (by omega), by omega⟩
theorem upto_len' (n : Nat) : (upto n).length = n := by simp [upto]
theorem upto_nodup (n : Nat) : (upto n).Nodup := by
 unfold upto List.Nodup
 rw [List.pairwise_map]
 exact List.nodup_range.imp (fun h e => h (by omega))
def turnsOf (l : List S37) : List Int := sortF (turnsLt l) (upto l.length)
theorem turns_sorted (l : List S37) : Sorted (turnsLt l) (upto l.length) (turnsOf l) := sortF_sorted (turns_as l) (turns_nt l) _
theorem impl_Turns_f (l : List S37) (h : l.length ≤ 20) : impl_Turns.f l = some (turnsOf l) := by
 unfold impl_Turns.f turnsOf
 rw [if_pos h, sortL_eq]

theorem bits_and_small (x : Int) {m : Nat} (hm : m < 256) : 0 ≤ Go.bits .and .i64 x (m : Int) ∧ Go.bits .and .i64 x (m : Int) ≤ (m : Int) := by
 unfold Go.bits
 show 0 ≤ IntKind.i64.wrap ((BitVec.ofInt 64 x &&& BitVec.ofInt 64 (m : Int)).toNat : Int) ∧ IntKind.i64.wrap ((BitVec.ofInt 64 x &&& BitVec.ofInt 64 (m : Int)).toNat : Int) ≤ (m : Int)
 rw [BitVec.toNat_and, BitVec.ofInt_natCast, BitVec.toNat_ofNat, Nat.mod_eq_of_lt (show m < 2 ^ 64 by omega)]
 have h : (BitVec.ofInt 64 x).toNat &&& m ≤ m := Nat.and_le_right
 rw [i64_w, wrap_id (by omega) (by omega)]
 omega
theorem l1Byte_ok (b : List Int) (i h : Int) (hi : 0 ≤ i) (hb : b.length ≤ 1048576) : ∃ x i' h' : Int, spec_l1Byte.f b i h = some (x, i', h') ∧ 0 ≤ x ∧ x ≤ 255 ∧ 0 ≤ i' := by
 unfold spec_l1Byte.f
 by_cases h1 : i < (b.length : Int)
 ·rw [if_pos h1, if_pos hi, wrap_id (x := i + 1) (by omega) (by omega)]
  have := bits_and_small (m := 255) (wrap64 (Go.bits .and .i64 (Go.bits .xor .i64 (wrap64 (wrap64 (h * 6364136223846793005) + 1442695040888963407) / 8589934592) (wrap64 (wrap64 (h * 6364136223846793005) + 1442695040888963407) / 140737488355328)) 255 + wrap64 (rd b i))) (by omega)
  exact ⟨_, _, _, rfl, this.1, this.2, by omega⟩
 ·rw [if_neg h1]
  have := bits_and_small (m := 255) (Go.bits .xor .i64 (wrap64 (wrap64 (h * 6364136223846793005) + 1442695040888963407) / 8589934592) (wrap64 (wrap64 (h * 6364136223846793005) + 1442695040888963407) / 140737488355328)) (by omega)
  exact ⟨_, _, _, rfl, this.1, this.2, by omega⟩
theorem l1Below_ok (b : List Int) (i h n : Int) (hi : 0 ≤ i) (hb : b.length ≤ 1048576) : ∃ x i' h' : Int, spec_l1Below.f b i h n = some (x, i', h') ∧ 0 ≤ i' ∧ 0 ≤ x ∧ (0 < n → x < n) ∧ (n ≤ 0 → x = 0) := by
 unfold spec_l1Below.f
 by_cases h1 : n ≤ 0
 ·rw [if_pos h1]
  exact ⟨_, _, _, rfl, hi, by omega, by omega, fun _ => rfl⟩
 ·rw [if_neg h1]
  obtain ⟨x, i1, s1, e1, x0, x1, hi1⟩ := l1Byte_ok b i h hi hb
  rw [e1]
  simp only [some_bind]
  by_cases h2 : n ≤ 256
  ·rw [if_pos h2, if_neg (by omega)]
   refine ⟨_, _, _, rfl, hi1, ?_, fun _ => ?_, fun h => by omega⟩
   ·rw [Int.tmod_eq_emod_of_nonneg x0]; exact Int.emod_nonneg _ (by omega)
   ·rw [Int.tmod_eq_emod_of_nonneg x0]; exact Int.emod_lt_of_pos _ (by omega)
  ·rw [if_neg h2]
   obtain ⟨y, i2, s2, e2, y0, y1, hi2⟩ := l1Byte_ok b i1 s1 hi1 hb
   rw [e2]
   simp only [some_bind]
   obtain ⟨z, i3, s3, e3, z0, z1, hi3⟩ := l1Byte_ok b i2 s2 hi2 hb
   rw [e3]
   simp only [some_bind]
   rw [if_neg (by omega), wrap_id (x := x * 65536) (by omega) (by omega), wrap_id (x := y * 256) (by omega) (by omega), wrap_id (x := x * 65536 + y * 256) (by omega) (by omega), wrap_id (x := x * 65536 + y * 256 + z) (by omega) (by omega)]
   refine ⟨_, _, _, rfl, hi3, ?_, fun _ => ?_, fun h => by omega⟩
   ·rw [Int.tmod_eq_emod_of_nonneg (by omega)]; exact Int.emod_nonneg _ (by omega)
   ·rw [Int.tmod_eq_emod_of_nonneg (by omega)]; exact Int.emod_lt_of_pos _ (by omega)
theorem l1Once_ok (b : List Int) (i h n : Int) (hi : 0 ≤ i) (hb : b.length ≤ 1048576) : ∃ (x : Bool) (i' h' : Int), spec_l1Once.f b i h n = some (x, i', h') ∧ 0 ≤ i' := by
 obtain ⟨x, i1, s1, e1, hi1, _⟩ := l1Below_ok b i h n hi hb
 unfold spec_l1Once.f
 rw [e1]
 exact ⟨_, _, _, rfl, hi1⟩
theorem l1Int_ok (b : List Int) (i h : Int) (l : List Int) (hi : 0 ≤ i) (hb : b.length ≤ 1048576) (hl : 0 < l.length) (hl2 : l.length ≤ 1048576) : ∃ x i' h' : Int, spec_l1Int.f b i h l = some (x, i', h') ∧ 0 ≤ i' ∧ x ∈ l := by
 obtain ⟨x, i1, s1, e1, hi1, x0, x1, _⟩ := l1Below_ok b i h l.length hi hb
 have x2 := x1 (by omega)
 unfold spec_l1Int.f
 rw [e1]
 simp only [some_bind]
 rw [if_pos x0, if_pos x2]
 refine ⟨_, _, _, rfl, hi1, ?_⟩
 unfold rd
 rw [getD_at (by omega)]
 exact List.getElem_mem _
theorem l1Str_ok (b : List Int) (i h : Int) (l : List ByteArray) (hi : 0 ≤ i) (hb : b.length ≤ 1048576) (hl : 0 < l.length) (hl2 : l.length ≤ 1048576) : ∃ (x : ByteArray) (i' h' : Int), spec_l1Str.f b i h l = some (x, i', h') ∧ 0 ≤ i' ∧ x ∈ l := by
 obtain ⟨x, i1, s1, e1, hi1, x0, x1, _⟩ := l1Below_ok b i h l.length hi hb
 have x2 := x1 (by omega)
 unfold spec_l1Str.f
 rw [e1]
 simp only [some_bind]
 rw [if_pos x0, if_pos x2]
 refine ⟨_, _, _, rfl, hi1, ?_⟩
 unfold rdOf
 rw [getD_at (by omega)]
 exact List.getElem_mem _
theorem l1New_ok (b : List Int) (hb : b.length ≤ 1048576) : ∃ h : Int, Ev (fun k => spec_l1New.f k b) (b, 0, h) := by
 have key : ∀ (d i : Nat) (h : Int), i + d = b.length → ∃ h' : Int, Ev (fun k => spec_l1New.l0 k b h i) (b, 0, h') := by
  intro d
  induction d with
  | zero =>
   intro i h e
   exact ⟨h, Ev.unroll (by simp only [spec_l1New.l0]; exact Ev.ifn (by omega) (Ev.now _))⟩
  | succ d ih =>
   intro i h e
   by_cases h4 : (i : Int) < 4000
   ·obtain ⟨h', hh⟩ := ih (i + 1) (Go.bits .and .i64 (wrap64 (wrap64 (wrap64 (h * 137) + wrap64 (rd b i)) + 11)) 1073741823) (by omega)
    refine ⟨h', Ev.unroll ?_⟩
    simp only [spec_l1New.l0]
    refine Ev.ifp (by omega) (Ev.ifp h4 (Ev.ifp (by omega) ?_))
    rw [wrap_sc (by omega)]
    exact hh
   ·exact ⟨h, Ev.unroll (by simp only [spec_l1New.l0]; exact Ev.ifp (by omega) (Ev.ifn h4 (Ev.now _)))⟩
 exact key b.length 0 _ (by omega)

structure Drawn (w h : Int) (cs : List Int) : Prop where
 ok : floorOk w h cs = true
 len : 1 ≤ cs.length ∧ cs.length ≤ 42
def drawnTexts : List ByteArray := [(⟨#[99, 46, 46, 46, 46, 46, 10, 46, 112, 112, 46, 112, 46, 10, 46, 112, 112, 46, 112, 46, 10, 46, 46, 46, 46, 46, 115, 10]⟩ : ByteArray), (⟨#[99, 46, 46, 10, 46, 46, 46, 10, 46, 46, 115, 10]⟩ : ByteArray), (⟨#[46, 46, 46, 46, 46, 10, 46, 112, 35, 112, 46, 10, 46, 46, 115, 46, 46, 10, 46, 112, 35, 112, 46, 10, 99, 46, 46, 46, 99, 10]⟩ : ByteArray), (⟨#[46, 46, 46, 35, 46, 46, 46, 10, 46, 46, 46, 46, 46, 46, 46, 10, 46, 46, 46, 35, 46, 46, 46, 10]⟩ : ByteArray), (⟨#[99, 46, 46, 46, 46, 46, 46, 46, 10, 46, 112, 46, 112, 46, 112, 46, 46, 10, 46, 46, 46, 46, 46, 46, 46, 115, 10, 46, 112, 46, 112, 46, 112, 46, 46, 10, 99, 46, 46, 46, 46, 46, 46, 115, 10]⟩ : ByteArray), (⟨#[46, 46, 10, 46, 46, 10]⟩ : ByteArray), (⟨#[99, 46, 35, 46, 115, 10, 46, 46, 35, 46, 46, 10]⟩ : ByteArray)]
theorem drawn_pars (s : ByteArray) (hs : s ∈ drawnTexts) :
  ∃ (w h : Int) (cs : List Int), Ev (fun k => spec_ParseFloor.f k s) (w, h, cs, -1) ∧ Drawn w h cs := by
 unfold drawnTexts at hs
 simp only [List.mem_cons, List.not_mem_nil, or_false] at hs
 rcases hs with rfl | rfl | rfl | rfl | rfl | rfl | rfl
 ·exact ⟨6, 4, [4, 1, 1, 1, 1, 1, 1, 2, 2, 1, 2, 1, 1, 2, 2, 1, 2, 1, 1, 1, 1, 1, 1, 3], Ev.of (spec_ParseFloor.mono _) (k := 200) (by decide +kernel), by decide +kernel, by decide⟩
 ·exact ⟨3, 3, [4, 1, 1, 1, 1, 1, 1, 1, 3], Ev.of (spec_ParseFloor.mono _) (k := 200) (by decide +kernel), by decide +kernel, by decide⟩
 ·exact ⟨5, 5, [1, 1, 1, 1, 1, 1, 2, 0, 2, 1, 1, 1, 3, 1, 1, 1, 2, 0, 2, 1, 4, 1, 1, 1, 4], Ev.of (spec_ParseFloor.mono _) (k := 200) (by decide +kernel), by decide +kernel, by decide⟩
 ·exact ⟨7, 3, [1, 1, 1, 0, 1, 1, 1, 1, 1, 1, 1, 1, 1, 1, 1, 1, 1, 0, 1, 1, 1], Ev.of (spec_ParseFloor.mono _) (k := 200) (by decide +kernel), by decide +kernel, by decide⟩
 ·exact ⟨8, 5, [4, 1, 1, 1, 1, 1, 1, 1, 1, 2, 1, 2, 1, 2, 1, 1, 1, 1, 1, 1, 1, 1, 1, 3, 1, 2, 1, 2, 1, 2, 1, 1, 4, 1, 1, 1, 1, 1, 1, 3], Ev.of (spec_ParseFloor.mono _) (k := 200) (by decide +kernel), by decide +kernel, by decide⟩
 ·exact ⟨2, 2, [1, 1, 1, 1], Ev.of (spec_ParseFloor.mono _) (k := 200) (by decide +kernel), by decide +kernel, by decide⟩
 ·exact ⟨5, 2, [4, 1, 0, 1, 3, 1, 1, 0, 1, 1], Ev.of (spec_ParseFloor.mono _) (k := 200) (by decide +kernel), by decide +kernel, by decide⟩
theorem l1Floor_l0_ok (b : List Int) (hb : b.length ≤ 1048576) (w h : Int) (hw : 1 ≤ w ∧ w ≤ 7) (hh : 1 ≤ h ∧ h ≤ 6) (n : Nat) (hn : (n : Int) = w * h) : ∀ (d j : Nat) (i s : Int) (cs : List Int), j + d = n → 0 ≤ i → cs.length = j → (∀ x ∈ cs, 0 ≤ x ∧ x ≤ 4) →
  ∃ (cs' : List Int) (i' s' : Int), Ev (fun k => spec_l1Floor.l0 k j b i s w h cs) (w, h, cs', i', s') ∧ cs'.length = n ∧ (∀ x ∈ cs', 0 ≤ x ∧ x ≤ 4) ∧ 0 ≤ i' := by
 have area : w * h ≤ 7 * 6 := Int.mul_le_mul hw.2 hh.2 (by omega) (by omega)
 have e0 : wrap64 (w * h) = n := by rw [wrap_id (by omega) (by omega)]; omega
 intro d
 induction d with
 | zero =>
  intro j i s cs e hi hl hc
  refine ⟨cs, i, s, Ev.unroll ?_, by omega, hc, hi⟩
  simp only [spec_l1Floor.l0, e0]
  exact Ev.ifn (by omega) (Ev.now _)
 | succ d ih =>
  intro j i s cs e hi hl hc
  obtain ⟨x, i1, s1, e1, hi1, hx⟩ := l1Int_ok b i s [1, 1, 1, 1, 1, 1, 0, 2, 3, 4] hi hb (by decide) (by decide)
  have hx2 : 0 ≤ x ∧ x ≤ 4 := by
   simp only [List.mem_cons, List.not_mem_nil, or_false] at hx
   omega
  obtain ⟨cs', i', s', h1, h2, h3, h4⟩ := ih (j + 1) i1 s1 (cs ++ [x]) (by omega) hi1 (by simp; omega) (fun y hy => by
   rw [List.mem_append, List.mem_singleton] at hy
   rcases hy with hy | hy
   ·exact hc y hy
   ·rw [hy]; exact hx2)
  refine ⟨cs', i', s', Ev.unroll ?_, h2, h3, h4⟩
  simp only [spec_l1Floor.l0, e0, e1, some_bind]
  refine Ev.ifp (by omega) (Ev.ifp (by omega) ?_)
  rw [wrap_sc (by omega)]
  exact h1
theorem drawn_of {w h : Int} {cs : List Int} (hw : 1 ≤ w ∧ w ≤ 7) (hh : 1 ≤ h ∧ h ≤ 6) (hl : (cs.length : Int) = w * h) (hc : ∀ x ∈ cs, 0 ≤ x ∧ x ≤ 4) : Drawn w h cs := by
 have area : w * h ≤ 7 * 6 := Int.mul_le_mul hw.2 hh.2 (by omega) (by omega)
 have area1 : 1 * 1 ≤ w * h := Int.mul_le_mul hw.1 hh.1 (by omega) (by omega)
 refine ⟨?_, by omega, by omega⟩
 unfold floorOk kindsOk
 simp only [Bool.and_eq_true, inB_iff, decide_eq_true_eq, allFrom_iff]
 exact ⟨⟨⟨⟨hw.1, by omega⟩, hh.1, by omega⟩, hl⟩, fun j _ hj => by rw [getD_at hj]; exact hc _ (List.getElem_mem hj)⟩
theorem l1Floor_ok (b : List Int) (i s : Int) (hi : 0 ≤ i) (hb : b.length ≤ 1048576) : ∃ (w h : Int) (cs : List Int) (i' s' : Int), Ev (fun k => spec_l1Floor.f k b i s) (w, h, cs, i', s') ∧ Drawn w h cs ∧ 0 ≤ i' := by
 unfold spec_l1Floor.f
 obtain ⟨x, i1, s1, e1, hi1⟩ := l1Once_ok b i s 3 hi hb
 rw [e1]
 simp only [some_bind]
 cases x with
 | true =>
  obtain ⟨t, i2, s2, e2, hi2, ht⟩ := l1Str_ok b i1 s1 drawnTexts hi1 hb (by decide) (by decide)
  obtain ⟨w, h, cs, hp, hd⟩ := drawn_pars t ht
  refine ⟨w, h, cs, i2, s2, ?_, hd, hi2⟩
  unfold drawnTexts at e2
  rw [e2]
  simp only [if_true, some_bind]
  exact Ev.bind hp (Ev.now _)
 | false =>
  obtain ⟨x, i2, s2, e2, hi2, x0, x1, _⟩ := l1Below_ok b i1 s1 7 hi1 hb
  obtain ⟨y, i3, s3, e3, hi3, y0, y1, _⟩ := l1Below_ok b i2 s2 6 hi2 hb
  have x1 := x1 (by omega)
  have y1 := y1 (by omega)
  have area0 : 0 ≤ (1 + x) * (1 + y) := Int.mul_nonneg (by omega) (by omega)
  obtain ⟨cs, i4, s4, h1, h2, h3, h4⟩ := l1Floor_l0_ok b hb (1 + x) (1 + y) (by omega) (by omega) ((1 + x) * (1 + y)).toNat (by omega) ((1 + x) * (1 + y)).toNat 0 i3 s3 [] (by omega) hi3 rfl (by simp)
  refine ⟨1 + x, 1 + y, cs, i4, s4, ?_, drawn_of (by omega) (by omega) (by omega) h3, h4⟩
  rw [e2]
  simp only [Bool.false_eq_true, if_false, some_bind]
  rw [e3]
  simp only [some_bind]
  rw [wrap_id (x := 1 + x) (by omega) (by omega), wrap_id (x := 1 + y) (by omega) (by omega)]
  exact h1
inductive Walk (nb : Int → List Int) (go : Int → Bool) (a : Int) : Nat → Int → Prop
 | nil : Walk nb go a 0 a
 | snoc {k : Nat} {b c : Int} (w : Walk nb go a k b) (g : go b = true) (h : c ∈ nb b) : Walk nb go a (k + 1) c
theorem Walk.cons {nb : Int → List Int} {go : Int → Bool} {a b : Int} (g : go a = true) (h : b ∈ nb a) : ∀ {k : Nat} {c : Int}, Walk nb go b k c → Walk nb go a (k + 1) c
 | _, _, .nil => .snoc .nil g h
 | _, _, .snoc w g' h' => .snoc (Walk.cons g h w) g' h'
theorem Walk.mono {nb nb' : Int → List Int} {go go' : Int → Bool} (h : ∀ a b : Int, go a = true → b ∈ nb a → go' a = true ∧ b ∈ nb' a) : ∀ {k : Nat} {a c : Int}, Walk nb go a k c → Walk nb' go' a k c
 | _, _, _, .nil => .nil
 | _, _, _, .snoc w g h' => .snoc (Walk.mono h w) (h _ _ g h').1 (h _ _ g h').2
def Reach (nb : Int → List Int) (go : Int → Bool) (a b : Int) : Prop := ∃ k, Walk nb go a k b
section
variable {nb : Int → List Int} {go : Int → Bool} {dst : Int} {n : Nat} {d : List Int}
end

abbrev yes : Int → Bool := fun _ => true
theorem Reach.mono {nb nb' : Int → List Int} {a c : Int} (h : ∀ a b : Int, b ∈ nb a → b ∈ nb' a) : Reach nb yes a c → Reach nb' yes a c := fun ⟨k, w⟩ => ⟨k, Walk.mono (fun a b _ h' => ⟨rfl, h a b h'⟩) w⟩
def openL (cs : List Int) : List Int := filtFrom cs.length 0 (fun j => decide (cs.getD j 0 ≠ 0))
theorem spec_l2Free_l0 (w h : Int) (cs : List Int) (hn : cs.length ≤ 1048576) : ∀ (d i : Nat) (acc : List Int), i + d = cs.length → acc.length ≤ i → Ev (fun k => spec_l2Free.l0 k acc i w h cs) (acc ++ filtFrom cs.length i (fun j => decide (cs.getD j 0 ≠ 0)))
 | 0, i, acc, e, ha => Ev.unroll (by
   simp only [spec_l2Free.l0]
   exact Ev.ifn (by omega) (Ev.fin (by rw [filtFrom_end (by omega)]; simp)))
 | d + 1, i, acc, e, ha => Ev.unroll (by
   have hi : i < cs.length := by omega
   simp only [spec_l2Free.l0, wrap_sc (show i < 9223372036854775807 by omega)]
   refine Ev.ifp (by omega) (Ev.ifp (by omega) (ev_ite' (fun h0 => ?_) (fun h0 => Ev.ifp (by omega) ?_)))
   ·rw [rd_nat'] at h0
    rw [filtFrom_no hi (by simp only [ne_eq, decide_eq_false_iff_not, Classical.not_not]; exact h0)]
    exact spec_l2Free_l0 w h cs hn d (i + 1) acc (by omega) (by omega)
   ·rw [rd_nat'] at h0
    rw [filtFrom_yes hi (by simp only [ne_eq, decide_eq_true_eq]; exact h0)]
    have := spec_l2Free_l0 w h cs hn d (i + 1) (acc ++ [(i : Int)]) (by omega) (by simp; omega)
    rw [List.append_assoc] at this
    exact this)
theorem spec_l2Free_f (w h : Int) (cs : List Int) (hn : cs.length ≤ 1048576) : Ev (fun k => spec_l2Free.f k w h cs) (openL cs) := spec_l2Free_l0 w h cs hn cs.length 0 [] (by omega) (by simp)
structure CrewD (cs : List Int) (out : List S37) : Prop where
 len : out.length ≤ 20
 ok : ∀ i : Nat, i < out.length → (robAt out i).f0 = (i : Int) + 1 ∧ cellB cs (robAt out i).f1 = true ∧ ((robAt out i).f2 = -1 ∨ cellB cs (robAt out i).f2 = true) ∧ 0 ≤ (robAt out i).f4 ∧ (robAt out i).f4 ≤ 7
 apart : ∀ i j : Nat, i < j → j < out.length → (robAt out i).f1 ≠ (robAt out j).f1
structure Crewing (cs : List Int) (out : List S37) (free : List Int) : Prop extends CrewD cs out where
 cells : ∀ c ∈ free, cellB cs c = true
 left : ∀ i : Nat, i < out.length → (robAt out i).f1 ∉ free
 once : free.Nodup
theorem openL_mem {cs : List Int} {c : Int} : c ∈ openL cs ↔ cellB cs c = true := by
 unfold openL cellB
 rw [mem_filtFrom, Bool.and_eq_true, inB_iff]
 constructor
 ·rintro ⟨j, _, h1, h2, rfl⟩
  refine ⟨by omega, ?_⟩
  rw [rd_nat']
  simpa using h2
 ·rintro ⟨⟨h0, h1⟩, h2⟩
  refine ⟨c.toNat, Nat.zero_le _, by omega, ?_, by omega⟩
  rw [show c = ((c.toNat : Nat) : Int) by omega, rd_nat'] at h2
  simpa using h2
theorem filtFrom_nodup {n i : Nat} {p : Nat → Bool} : (filtFrom n i p).Nodup := by
 unfold filtFrom List.Nodup
 rw [List.pairwise_map]
 exact ((List.nodup_range' (step := 1)).filter _).imp (fun h e => h (by omega))
theorem robAt_app {l : List S37} {r : S37} {i : Nat} : robAt (l ++ [r]) i = if i < l.length then robAt l i else if i = l.length then r else z37 := by
 unfold robAt
 rw [List.getD_eq_getElem?_getD, List.getD_eq_getElem?_getD]
 by_cases h : i < l.length
 ·rw [if_pos h, List.getElem?_append_left h]
 ·rw [if_neg h, List.getElem?_append_right (by omega)]
  by_cases h2 : i = l.length
  ·rw [if_pos h2, h2]; simp
  ·rw [if_neg h2, List.getElem?_eq_none (by simp; omega)]; rfl
theorem cut_sub (l : List Int) (n : Nat) : (l.take n ++ l.drop (n + 1)).Sublist l := by
 rw [← List.eraseIdx_eq_take_drop_succ]
 exact List.eraseIdx_sublist l n
theorem cut_not {l : List Int} (h : l.Nodup) {n : Nat} (hn : n < l.length) : l[n] ∉ l.take n ++ l.drop (n + 1) := by
 intro hm
 have e : l = l.take n ++ l[n] :: l.drop (n + 1) := by
  rw [← List.drop_eq_getElem_cons hn, List.take_append_drop]
 rw [e, List.nodup_append] at h
 rw [List.mem_append] at hm
 rcases hm with hm | hm
 ·exact h.2.2 _ hm _ (List.mem_cons_self ..) rfl
 ·exact (List.nodup_cons.1 h.2.1).1 hm
theorem Crewing.step {cs : List Int} {out : List S37} {free : List Int} (C : Crewing cs out free) (h20 : out.length < 20) {j : Int} (j0 : 0 ≤ j) (j1 : j < (free.length : Int)) {g a : Int} {ld : Bool} (hg : g = -1 ∨ cellB cs g = true) (ha : 0 ≤ a ∧ a ≤ 7) :
  Crewing cs (out ++ [⟨(out.length : Int) + 1, rd free j, g, ld, a⟩]) (free.take j.toNat ++ free.drop (j.toNat + 1)) := by
 have hr : rd free j = free[j.toNat] := by unfold rd; rw [getD_at (by omega)]
 have hm : rd free j ∈ free := by rw [hr]; exact List.getElem_mem _
 have hs := cut_sub free j.toNat
 have at_ : ∀ i : Nat, i < out.length + 1 → robAt (out ++ [(⟨(out.length : Int) + 1, rd free j, g, ld, a⟩ : S37)]) i = if i < out.length then robAt out i else ⟨(out.length : Int) + 1, rd free j, g, ld, a⟩ := fun i hi => by
  rw [robAt_app]
  by_cases h : i < out.length
  ·rw [if_pos h, if_pos h]
  ·rw [if_neg h, if_neg h, if_pos (by omega)]
 have hl : (out ++ [(⟨(out.length : Int) + 1, rd free j, g, ld, a⟩ : S37)]).length = out.length + 1 := by simp
 refine ⟨⟨by omega, fun i hi => ?_, fun i k hik hk => ?_⟩, fun c hc => C.cells c (hs.mem hc), fun i hi hc => ?_, C.once.sublist hs⟩
 ·rw [at_ i (by omega)]
  by_cases h : i < out.length
  ·rw [if_pos h]; exact C.ok i h
  ·rw [if_neg h]
   exact ⟨by dsimp only; omega, C.cells _ hm, hg, ha⟩
 ·rw [at_ i (by omega), at_ k (by omega), if_pos (show i < out.length by omega)]
  by_cases h : k < out.length
  ·rw [if_pos h]; exact C.apart i k hik h
  ·rw [if_neg h]
   intro e
   exact C.left i (by omega) (by rw [e]; exact hm)
 ·rw [at_ i (by omega)] at hc
  by_cases h : i < out.length
  ·rw [if_pos h] at hc
   exact C.left i h (hs.mem hc)
  ·rw [if_neg h] at hc
   dsimp only at hc
   rw [hr] at hc
   exact cut_not C.once (by omega) hc
theorem l7Crew_l0_ok (b : List Int) (hb : b.length ≤ 1048576) (w hh : Int) (cs : List Int) (hn : cs.length ≤ 100) : ∀ (d : Nat) (out : List S37) (free : List Int) (i p h : Int), i ≤ (d : Int) → i ≤ 100000 → 0 ≤ p → free.length ≤ 100 → Crewing cs out free →
  ∃ (out' : List S37) (p' h' : Int), Ev (fun k => spec_l7Crew.l0 k out free i b p h w hh cs) (out', p', h') ∧ CrewD cs out' ∧ 0 ≤ p' := by
 intro d
 induction d with
 | zero =>
  intro out free i p h hi _ hp _ C
  refine ⟨out, p, h, Ev.unroll ?_, C.toCrewD, hp⟩
  simp only [spec_l7Crew.l0]
  exact Ev.ifn (by omega) (Ev.now _)
 | succ d ih =>
  intro out free i p h hi hi2 hp hfl C
  by_cases c1 : 0 < i
  ·by_cases c2 : 0 < free.length
   ·by_cases c3 : out.length < 20
    ·obtain ⟨j1, p1, h1, e1, hp1, x0, x1, _⟩ := l1Below_ok b p h free.length hp hb
     have x1 := x1 (by omega)
     have hgm : 0 < (openL cs).length := by
      have hm : free[0] ∈ openL cs := openL_mem.2 (C.cells _ (List.getElem_mem c2))
      exact List.length_pos_of_mem hm
     have hgl : (openL cs).length ≤ 100 := by unfold openL; exact Nat.le_trans filtFrom_le (by omega)
     obtain ⟨j2, p2, h2, e2, hp2, y0, y1, _⟩ := l1Below_ok b p1 h1 (openL cs).length hp1 hb
     have y1 := y1 (by omega)
     obtain ⟨o3, p3, h3, e3, hp3⟩ := l1Once_ok b p2 h2 3 hp2 hb
     obtain ⟨j4, p4, h4, e4, hp4, hm4⟩ := l1Int_ok b p3 h3 [0, 0, 1, 2, 7] hp3 hb (by decide) (by decide)
     obtain ⟨o5, p5, h5, e5, hp5⟩ := l1Once_ok b p4 h4 5 hp4 hb
     have hj4 : 0 ≤ j4 ∧ j4 ≤ 7 := by
      simp only [List.mem_cons, List.not_mem_nil, or_false] at hm4
      omega
     have hgv : (if o5 = true then (-1 : Int) else rd (openL cs) j2) = -1 ∨ cellB cs (if o5 = true then (-1 : Int) else rd (openL cs) j2) = true := by
      cases o5 with
      | true => exact Or.inl rfl
      | false =>
       refine Or.inr (openL_mem.1 ?_)
       show rd (openL cs) j2 ∈ openL cs
       unfold rd
       rw [getD_at (by omega)]
       exact List.getElem_mem _
     have C2 := C.step c3 x0 x1 (ld := o3) hgv hj4
     have hfl2 : (free.take j1.toNat ++ free.drop (j1.toNat + 1)).length ≤ 100 := Nat.le_trans (cut_sub free j1.toNat).length_le hfl
     obtain ⟨out', p', h', e6, D, hp'⟩ := ih _ _ (i - 1) p5 h5 (by omega) (by omega) hp5 hfl2 C2
     refine ⟨out', p', h', Ev.unroll ?_, D, hp'⟩
     simp only [spec_l7Crew.l0, e1, some_bind]
     refine Ev.ifp c1 (Ev.ifp c2 (Ev.ifp c3 (Ev.bind (spec_l2Free_f w hh cs (by omega)) (Ev.ifp x0 (Ev.ifp x1 (Ev.ifp (by omega) ?_))))))
     simp only [e2, some_bind]
     refine Ev.ifp y0 (Ev.ifp y1 ?_)
     simp only [e3, e4, e5, some_bind, List.nil_append]
     rw [wrap_id (x := i - 1) (by omega) (by omega), wrap_id (x := j1 + 1) (by omega) (by omega), wrap_id (x := (out.length : Int) + 1) (by omega) (by omega), show (j1 + 1).toNat = j1.toNat + 1 by omega]
     exact e6
    ·refine ⟨out, p, h, Ev.unroll ?_, C.toCrewD, hp⟩
     simp only [spec_l7Crew.l0]
     exact Ev.ifp c1 (Ev.ifp c2 (Ev.ifn c3 (Ev.now _)))
   ·refine ⟨out, p, h, Ev.unroll ?_, C.toCrewD, hp⟩
    simp only [spec_l7Crew.l0]
    exact Ev.ifp c1 (Ev.ifn c2 (Ev.now _))
  ·refine ⟨out, p, h, Ev.unroll ?_, C.toCrewD, hp⟩
   simp only [spec_l7Crew.l0]
   exact Ev.ifn c1 (Ev.now _)
theorem l7Crew_ok (b : List Int) (hb : b.length ≤ 1048576) (p h w hh : Int) (cs : List Int) (most : Int) (hp : 0 ≤ p) (hn : cs.length ≤ 100) (hm : 0 ≤ most ∧ most ≤ 100) :
  ∃ (out : List S37) (p' h' : Int), Ev (fun k => spec_l7Crew.f k b p h w hh cs most) (out, p', h') ∧ CrewD cs out ∧ 0 ≤ p' := by
 obtain ⟨i, p1, h1, e1, hp1, x0, x1, _⟩ := l1Below_ok b p h (most + 1) hp hb
 have x1 := x1 (by omega)
 have hgl : (openL cs).length ≤ 100 := by unfold openL; exact Nat.le_trans filtFrom_le (by omega)
 obtain ⟨out, p', h', e2, D, hp'⟩ := l7Crew_l0_ok b hb w hh cs hn 1000 [] (openL cs) i p1 h1 (by omega) (by omega) hp1 hgl ⟨⟨by simp, fun i hi => by simp at hi, fun i j _ hj => by simp at hj⟩, fun c hc => openL_mem.1 hc, fun i hi => by simp at hi, filtFrom_nodup⟩
 refine ⟨out, p', h', ?_, D, hp'⟩
 unfold spec_l7Crew.f
 refine Ev.bind (spec_l2Free_f w hh cs (by omega)) (Ev.ifp (by omega) (Ev.ifp (by omega) ?_))
 simp only [e1, some_bind]
 exact e2
theorem l7Bend_ok (b : List Int) (hb : b.length ≤ 1048576) (p h : Int) (l : List S37) (hp : 0 ≤ p) (hl : l.length ≤ 20) : ∃ (out : List S37) (p' h' : Int), spec_l7Bend.f b p h l = some (out, p', h') ∧ out.length = l.length ∧ 0 ≤ p' := by
 unfold spec_l7Bend.f
 simp only [some_bind, List.nil_append, List.length_nil, Nat.zero_add]
 rw [if_pos (by omega)]
 by_cases h0 : (l.length : Int) = 0
 ·rw [if_pos h0]
  exact ⟨_, _, _, rfl, rfl, hp⟩
 ·rw [if_neg h0]
  obtain ⟨j, p1, h1, e1, hp1, x0, x1, _⟩ := l1Below_ok b p h l.length hp hb
  have x1 := x1 (by omega)
  obtain ⟨c, p2, h2, e2, hp2, _⟩ := l1Below_ok b p1 h1 6 hp1 hb
  rw [e1, some_bind]
  dsimp only
  rw [e2, some_bind]
  dsimp only
  obtain ⟨v0, q0, g0, a0, b0, _⟩ := l1Int_ok b p2 h2 [(-1), 0, 99] hp2 hb (by decide) (by decide)
  obtain ⟨v1, q1, g1, a1, b1, _⟩ := l1Int_ok b p2 h2 [(-2), 0, 100] hp2 hb (by decide) (by decide)
  obtain ⟨v2, q2, g2, a2, b2, _⟩ := l1Int_ok b p2 h2 [0, 1, 100] hp2 hb (by decide) (by decide)
  obtain ⟨v3, q3, g3, a3, b3, _⟩ := l1Int_ok b p2 h2 [(-1), 1000000, 1000001] hp2 hb (by decide) (by decide)
  split
  ·simp only [a0, some_bind, if_pos x0, if_pos x1]
   exact ⟨_, _, _, rfl, by simp, b0⟩
  ·split
   ·simp only [a1, some_bind, if_pos x0, if_pos x1]
    exact ⟨_, _, _, rfl, by simp, b1⟩
   ·split
    ·simp only [a2, some_bind, if_pos x0, if_pos x1]
     exact ⟨_, _, _, rfl, by simp, b2⟩
    ·split
     ·simp only [a3, some_bind, if_pos x0, if_pos x1]
      exact ⟨_, _, _, rfl, by simp, b3⟩
     ·exact ⟨_, _, _, rfl, rfl, hp2⟩
theorem l7DrawAny_ok (b : List Int) (hb : b.length ≤ 1048576) (p h : Int) (hp : 0 ≤ p) : ∃ (w hh : Int) (cs : List Int) (crew : List S37) (p' h' : Int), Ev (fun k => spec_l7DrawAny.f k b p h) (w, hh, cs, crew, p', h') ∧ Drawn w hh cs ∧ crew.length ≤ 20 ∧ 0 ≤ p' := by
 unfold spec_l7DrawAny.f
 obtain ⟨w, hh, cs, p1, h1, e1, hd, hp1⟩ := l1Floor_ok b p h hp hb
 obtain ⟨m, p2, h2, e2, hp2, hm⟩ := l1Int_ok b p1 h1 [3, 6, 12] hp1 hb (by decide) (by decide)
 have hm2 : 0 ≤ m ∧ m ≤ 100 := by
  simp only [List.mem_cons, List.not_mem_nil, or_false] at hm
  omega
 have hl := hd.len
 obtain ⟨out, p3, h3, e3, D, hp3⟩ := l7Crew_ok b hb p2 h2 w hh cs m hp2 (by omega) hm2
 obtain ⟨o4, p4, h4, e4, hp4⟩ := l1Once_ok b p3 h3 8 hp3 hb
 cases o4 with
 | true =>
  obtain ⟨out5, p5, h5, e5, hl5, hp5⟩ := l7Bend_ok b hb p4 h4 out hp4 D.len
  refine ⟨w, hh, cs, out5, p5, h5, Ev.bind e1 ?_, hd, by rw [hl5]; exact D.len, hp5⟩
  simp only [e2, some_bind]
  refine Ev.bind e3 ?_
  simp only [e4, some_bind, e5]
  exact Ev.ifp trivial (Ev.now _)
 | false =>
  refine ⟨w, hh, cs, out, p4, h4, Ev.bind e1 ?_, hd, D.len, hp4⟩
  simp only [e2, some_bind]
  refine Ev.bind e3 ?_
  simp only [e4, some_bind]
  exact Ev.ifn (by decide) (Ev.now _)

theorem fnturns_l1 (l : List S37) (T : List Int) (hn : T.length ≤ 20) (hd : T.Nodup) (i : Nat) (hi : i < T.length) (hR : Ev (fun k => laws_FnTurns.l0 k l T ((i + 1 : Nat) : Int)) true) : ∀ (d j : Nat), j + d = i → Ev (fun k => laws_FnTurns.l1 k l T i j) true
 | 0, j, e => Ev.unroll (by
   simp only [laws_FnTurns.l1, wrap_sc (show i < 9223372036854775807 by omega)]
   exact Ev.ifn (by omega) hR)
 | d + 1, j, e => Ev.unroll (by
   have ih := fnturns_l1 l T hn hd i hi hR d (j + 1) (by omega)
   have hj : j < T.length := by omega
   simp only [laws_FnTurns.l1, rd_nat hi, rd_nat hj, wrap_sc (show j < 9223372036854775807 by omega)]
   refine Ev.ifp (by omega) (Ev.ifp (by omega) (Ev.ifp (by omega) (Ev.ifp (by omega) (Ev.ifp (by omega) (Ev.ifn (fun e2 => ?_) ih)))))
   exact List.pairwise_iff_getElem.1 hd j i hj hi (by omega) e2)
theorem fnturns_l0 (l : List S37) (h20 : l.length ≤ 20) (T : List Int) (S : Sorted (turnsLt l) (upto l.length) T) : ∀ (d i : Nat), i + d = T.length → Ev (fun k => laws_FnTurns.l0 k l T i) true
 | 0, i, e => Ev.unroll (by
   have hl : T.length = l.length := by rw [S.len, upto_len']
   simp only [laws_FnTurns.l0]
   exact Ev.ifn (by omega) (Ev.fin (by simp [hl])))
 | d + 1, i, e => Ev.unroll (by
   have hl : T.length = l.length := by rw [S.len, upto_len']
   have ih := fnturns_l0 l h20 T S d (i + 1) (by omega)
   have hi : i < T.length := by omega
   have h1 := upto_mem'.1 ((S.mem _).1 (List.getElem_mem hi))
   have l1 := fnturns_l1 l T (by omega) (S.nodup (upto_nodup _)) i hi ih i 0 (by omega)
   have go : Ev (fun k => laws_FnTurns.j1 k l T i false) true := Ev.unroll (by
    simp only [laws_FnTurns.j1]
    exact Ev.ifn (by decide) l1)
   simp only [laws_FnTurns.l0, rd_nat hi]
   refine Ev.ifp (by omega) (Ev.ifp (by omega) (Ev.ifn (by omega) (Ev.ifn (by omega) ?_)))
   by_cases h0 : 0 < i
   ·have hp : i - 1 < T.length := by omega
    have h2 := upto_mem'.1 ((S.mem _).1 (List.getElem_mem hp))
    rw [wrap_pr (by omega) h0]
    simp only [rd_nat hp]
    have hs := List.pairwise_iff_getElem.1 S.ord (i - 1) i hp hi (by omega)
    rw [turnsLt_no] at hs
    rw [decide_eq_false (by omega)]
    exact Ev.ifp (by omega) (Ev.ifp (by omega) (Ev.ifp (by omega) (Ev.ifp (by omega) (Ev.ifp (by omega) (Ev.ifp (by omega) (Ev.ifp (by omega) go))))))
   ·exact Ev.ifn (by omega) go)
theorem FnTurns : laws_FnTurns.Pure := by
 intro b hm hb2 _
 refine Ev.rounds ?_
 unfold laws_FnTurns.f
 simp only [laws_big.f, some_bind, decide_eq_true_eq]
 refine ev_ite' (fun _ => Ev.now _) (fun hbig => ?_)
 obtain ⟨s, e0⟩ := l1New_ok b (by omega)
 obtain ⟨w, hh, cs, crew, p, h, e1, hd, h20, _⟩ := l7DrawAny_ok b (by omega) 0 s (by omega)
 have e2 : Ev (fun k => spec_DrawTurns.f k b) crew := by
  unfold spec_DrawTurns.f
  exact Ev.bind e0 (Ev.bind e1 (Ev.now _))
 refine Ev.bind e2 ?_
 simp only [impl_Turns_f crew h20, some_bind]
 exact fnturns_l0 crew h20 (turnsOf crew) (turns_sorted crew) (turnsOf crew).length 0 (by omega)

end Go.Proofs.Ytankmdbbgepmbaa.Pure
