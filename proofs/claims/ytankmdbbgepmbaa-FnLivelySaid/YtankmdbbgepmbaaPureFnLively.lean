/- Proved here: the law FnLively, over numbers and lists: for all arguments it returns true; no condition. -/
import Derived.Test.YtankmdbbgepmbaaPFnLivelyx22
namespace Go.Proofs.Ytankmdbbgepmbaa.Pure
open Go.RowKit Go.Proofs.Ytankmdbbgepmbaa.PFnLively Go.Proofs.YtankmdbbgepmbaaW.PrintWords Go.Proofs.YtankmdbbgepmbaaW.PrintLast
set_option linter.unusedVariables false
set_option linter.unusedSimpArgs false

theorem Ev.unroll {α : Type} {g : Nat → Option α} {r : α} (h : Ev (fun k => g (k + 1)) r) : Ev g r := Ev.step (fun _ => rfl) h
theorem Ev.const {α : Type} {x : Option α} {r : α} (h : x = some r) : Ev (fun _ => x) r := ⟨0, fun _ _ => h⟩
theorem Ev.fin {α : Type} {r s : α} (h : r = s) : Ev (fun _ => some r) s := by rw [h]; exact Ev.now _
theorem wrap_id {x : Int} (h0 : -9223372036854775808 ≤ x) (h1 : x ≤ 9223372036854775807) : wrap64 x = x := by unfold wrap64; omega
abbrev BIG : Nat := 4611686018427387904
theorem wrap_succ {i n : Nat} (h : i < n) (hn : n ≤ BIG) : wrap64 ((i : Int) + 1) = ((i + 1 : Nat) : Int) := by unfold wrap64; unfold BIG at hn; omega
theorem rd_nat {xs : List Int} {i : Nat} (h : i < xs.length) : rd xs (i : Int) = xs[i] := by unfold rd; simp [List.getD, h]
theorem drop_cons {α : Type} {xs : List α} {i : Nat} (h : i < xs.length) : xs.drop i = xs[i] :: xs.drop (i + 1) := List.drop_eq_getElem_cons h
theorem drop_end {α : Type} {xs : List α} {i : Nat} (h : xs.length ≤ i) : xs.drop i = [] := List.drop_of_length_le h
theorem fill_step {α : Type} (ys zs : List α) (x : α) {i : Nat} (hi : i = ys.length) (hz : 0 < zs.length) : (ys ++ zs).set i x = (ys ++ [x]) ++ zs.drop 1 := by
 subst hi
 match zs, hz with
 | z :: zs, _ => simp
theorem some_bind {α β : Type} (a : α) (f : α → Option β) : (some a).bind f = f a := rfl
theorem getD_at {α : Type} {xs : List α} {d : α} {i : Nat} (h : i < xs.length) : xs.getD i d = xs[i] := by simp [List.getD, h]
def allFrom (n i : Nat) (p : Nat → Bool) : Bool := (List.range' i (n - i)).all p
theorem allFrom_end {n i : Nat} {p : Nat → Bool} (h : n ≤ i) : allFrom n i p = true := by
 unfold allFrom
 rw [show n - i = 0 by omega]; rfl
theorem allFrom_step {n i : Nat} {p : Nat → Bool} (h : i < n) : allFrom n i p = (p i && allFrom n (i + 1) p) := by
 unfold allFrom
 rw [show n - i = (n - (i + 1)) + 1 by omega, List.range'_succ, List.all_cons]
theorem allFrom_no {n i : Nat} {p : Nat → Bool} (h : i < n) (hp : p i = false) : allFrom n i p = false := by rw [allFrom_step h, hp, Bool.false_and]
theorem allFrom_yes {n i : Nat} {p : Nat → Bool} (h : i < n) (hp : p i = true) : allFrom n i p = allFrom n (i + 1) p := by rw [allFrom_step h, hp, Bool.true_and]
theorem allFrom_iff {n i : Nat} {p : Nat → Bool} : allFrom n i p = true ↔ ∀ j, i ≤ j → j < n → p j = true := by
 unfold allFrom
 rw [List.all_eq_true]
 constructor
 ·intro h j h1 h2
  exact h j (by rw [List.mem_range'_1]; omega)
 ·intro h j hj
  rw [List.mem_range'_1] at hj
  exact h j hj.1 (by omega)
def filtFrom (n i : Nat) (p : Nat → Bool) : List Int := ((List.range' i (n - i)).filter p).map (fun j : Nat => (j : Int))
theorem filtFrom_end {n i : Nat} {p : Nat → Bool} (h : n ≤ i) : filtFrom n i p = [] := by
 unfold filtFrom
 rw [show n - i = 0 by omega]; rfl
theorem filtFrom_yes {n i : Nat} {p : Nat → Bool} (h : i < n) (hp : p i = true) : filtFrom n i p = (i : Int) :: filtFrom n (i + 1) p := by
 unfold filtFrom
 rw [show n - i = (n - (i + 1)) + 1 by omega, List.range'_succ, List.filter_cons, if_pos hp, List.map_cons]
theorem filtFrom_no {n i : Nat} {p : Nat → Bool} (h : i < n) (hp : p i = false) : filtFrom n i p = filtFrom n (i + 1) p := by
 unfold filtFrom
 rw [show n - i = (n - (i + 1)) + 1 by omega, List.range'_succ, List.filter_cons, if_neg (by rw [hp]; decide)]
theorem filtFrom_le {n i : Nat} {p : Nat → Bool} : (filtFrom n i p).length ≤ n - i := by
 unfold filtFrom
 rw [List.length_map]
 exact Nat.le_trans (List.length_filter_le _ _) (by simp)
theorem mem_filtFrom {n i : Nat} {p : Nat → Bool} {x : Int} : x ∈ filtFrom n i p ↔ ∃ j : Nat, i ≤ j ∧ j < n ∧ p j = true ∧ x = (j : Int) := by
 unfold filtFrom
 simp only [List.mem_map, List.mem_filter, List.mem_range'_1]
 constructor
 ·rintro ⟨j, ⟨⟨h1, h2⟩, h3⟩, rfl⟩; exact ⟨j, h1, by omega, h3, rfl⟩
 ·rintro ⟨j, h1, h2, h3, rfl⟩; exact ⟨j, ⟨⟨h1, by omega⟩, h3⟩, rfl⟩
theorem wrap_sc {i : Nat} (h : i < 9223372036854775807) : wrap64 ((i : Int) + 1) = ((i + 1 : Nat) : Int) := by unfold wrap64; omega
theorem rd_nat' {xs : List Int} {i : Nat} : rd xs (i : Int) = xs.getD i 0 := by unfold rd; rw [Int.toNat_natCast]
theorem getD_zero' {α : Type} {xs : List α} {d : α} : xs.getD (0 : Int).toNat d = xs.getD 0 d := rfl
theorem ev_ite {α : Type} {c : Prop} [Decidable c] {g h : Nat → Option α} {r s : α} (h1 : c → Ev g r) (h2 : ¬ c → Ev h s) : Ev (fun k => if c then g k else h k) (if c then r else s) := by
 by_cases hc : c
 ·simp only [if_pos hc]; exact h1 hc
 ·simp only [if_neg hc]; exact h2 hc
theorem Ev.ifp {α : Type} {c : Prop} [Decidable c] {g h : Nat → Option α} {r : α} (hc : c) (e : Ev g r) : Ev (fun k => if c then g k else h k) r := by simp only [if_pos hc]; exact e
theorem Ev.ifn {α : Type} {c : Prop} [Decidable c] {g h : Nat → Option α} {r : α} (hc : ¬ c) (e : Ev h r) : Ev (fun k => if c then g k else h k) r := by simp only [if_neg hc]; exact e
theorem ev_ite' {α : Type} {c : Prop} [Decidable c] {g h : Nat → Option α} {r : α} (h1 : c → Ev g r) (h2 : ¬ c → Ev h r) : Ev (fun k => if c then g k else h k) r := by
 by_cases hc : c
 ·simp only [if_pos hc]; exact h1 hc
 ·simp only [if_neg hc]; exact h2 hc
def insRev (lt : Int → Int → Bool) (x : Int) : List Int → List Int
 | [] => [x]
 | y :: r => if lt x y = true then y :: insRev lt x r else x :: y :: r
def sortRev (lt : Int → Int → Bool) (r : List Int) (xs : List Int) : List Int := xs.foldl (fun r x => insRev lt x r) r
def sortF (lt : Int → Int → Bool) (xs : List Int) : List Int := (sortRev lt [] xs).reverse
theorem getB {xs : List Int} {j : Nat} (h : j < xs.length) : xs.toArray[j]! = xs[j] := by
 rw [getElem!_def]; simp [h]
theorem insInner_list (lt : Int → Int → Bool) (x : Int) : ∀ (j : Nat) (A B : List Int), A.length = j → (Sort.insInner lt 0 j (A ++ x :: B).toArray) = ((insRev lt x A.reverse).reverse ++ B).toArray
 | 0, A, B, h => by
  obtain rfl := List.length_eq_zero_iff.1 h
  rfl
 | j + 1, A, B, h => by
  obtain ⟨A', y, rfl⟩ : ∃ A' y, A = A' ++ [y] := ⟨A.dropLast, A.getLast (by intro e; rw [e] at h; simp at h), (List.dropLast_concat_getLast _).symm⟩
  have hl : A'.length = j := by simp at h; omega
  have e1 : ((A' ++ [y]) ++ x :: B).toArray[j + 1]! = x := by rw [getB (by simp; omega)]; rw [List.getElem_append_right (by simp; omega)]; simp [hl]
  have e2 : ((A' ++ [y]) ++ x :: B).toArray[j]! = y := by rw [getB (by simp; omega)]; rw [List.getElem_append_left (by simp; omega), List.getElem_append_right (by omega)]; simp [hl]
  unfold Sort.insInner
  rw [e1, e2, List.reverse_append, List.reverse_singleton, List.singleton_append]
  simp only [insRev]
  by_cases hlt : lt x y = true
  ·rw [if_pos (by simp [hlt]), if_pos hlt]
   have es : Sort.swp ((A' ++ [y]) ++ x :: B).toArray (j + 1) j = (A' ++ x :: (y :: B)).toArray := by
    unfold Sort.swp
    rw [e1, e2]
    simp only [List.setIfInBounds_toArray]
    congr 1
    rw [List.set_append_right _ _ (by simp; omega)]
    rw [show j + 1 - (A' ++ [y]).length = 0 by simp; omega, List.set_cons_zero, List.append_assoc, List.set_append_right _ _ (by omega), show j - A'.length = 0 by omega]
    rfl
   rw [es, insInner_list lt x j A' (y :: B) hl]
   simp
  ·rw [if_neg (by simp [hlt]), if_neg hlt]
   simp
theorem insOuter_list (lt : Int → Int → Bool) : ∀ (d i : Nat) (r B : List Int), r.length = i → B.length = d → Sort.insOuter lt 0 (i + d) i (r.reverse ++ B).toArray = ((sortRev lt r B).reverse).toArray
 | 0, i, r, B, h, hB => by
  obtain rfl := List.length_eq_zero_iff.1 hB
  unfold Sort.insOuter
  rw [if_neg (by omega), List.append_nil]; rfl
 | d + 1, i, r, B, h, hB => by
  match B, hB with
  | x :: B, hB =>
   have hB : B.length = d := by simpa using hB
   unfold Sort.insOuter
   rw [if_pos (by omega), insInner_list lt x i r.reverse B (by simpa using h), List.reverse_reverse]
   have hl : (insRev lt x r).length = i + 1 := by
    have key : ∀ r : List Int, (insRev lt x r).length = r.length + 1 := by
     intro r
     induction r with
     | nil => rfl
     | cons y r ih => unfold insRev; split <;> simp [ih]
    rw [key, h]
   have := insOuter_list lt d (i + 1) (insRev lt x r) B hl hB
   rw [show i + (d + 1) = i + 1 + d by omega, this]
   rfl
theorem sortL_eq (lt : Int → Int → Bool) (xs : List Int) : sortL lt xs = sortF lt xs := by
 unfold sortL sortF Sort.insertionSort
 match xs with
 | [] =>
  unfold Sort.insOuter
  rfl
 | x :: xs =>
  have := insOuter_list lt xs.length 1 [x] xs rfl rfl
  rw [show (x :: xs).length = 1 + xs.length by simp; omega, show (0 + 1) = 1 from rfl, show (x :: xs) = [x].reverse ++ xs from rfl, this]
  rfl
theorem insRev_mem {lt : Int → Int → Bool} {x z : Int} : ∀ {r : List Int}, z ∈ insRev lt x r ↔ z = x ∨ z ∈ r
 | [] => by simp [insRev]
 | y :: r => by
  unfold insRev
  split
  ·rw [List.mem_cons, insRev_mem, List.mem_cons]
   constructor
   ·rintro (h | h | h)
    ·exact Or.inr (Or.inl h)
    ·exact Or.inl h
    ·exact Or.inr (Or.inr h)
   ·rintro (h | h | h)
    ·exact Or.inr (Or.inl h)
    ·exact Or.inl h
    ·exact Or.inr (Or.inr h)
  ·simp
theorem insRev_length {lt : Int → Int → Bool} {x : Int} : ∀ {r : List Int}, (insRev lt x r).length = r.length + 1
 | [] => rfl
 | y :: r => by unfold insRev; split <;> simp [insRev_length]
theorem insRev_nodup {lt : Int → Int → Bool} {x : Int} : ∀ {r : List Int}, r.Nodup → x ∉ r → (insRev lt x r).Nodup
 | [], _, _ => by simp [insRev]
 | y :: r, h, hx => by
  rw [List.nodup_cons] at h
  rw [List.mem_cons, not_or] at hx
  unfold insRev
  split
  ·rw [List.nodup_cons, insRev_mem]
   exact ⟨fun e => by rcases e with e | e; exact hx.1 e.symm; exact h.1 e, insRev_nodup h.2 hx.2⟩
  ·rw [List.nodup_cons, List.mem_cons, not_or]
   exact ⟨hx, List.nodup_cons.2 h⟩
theorem insRev_sorted {lt : Int → Int → Bool} (has : ∀ a b, lt a b = true → lt b a = false) (hnt : ∀ a b c, lt a b = false → lt b c = false → lt a c = false) {x : Int} : ∀ {r : List Int}, r.Pairwise (fun a b => lt a b = false) → (insRev lt x r).Pairwise (fun a b => lt a b = false)
 | [], _ => by simp [insRev]
 | y :: r, h => by
  rw [List.pairwise_cons] at h
  unfold insRev
  by_cases hx : lt x y = true
  ·rw [if_pos hx, List.pairwise_cons]
   refine ⟨fun b hb => ?_, insRev_sorted has hnt h.2⟩
   rw [insRev_mem] at hb
   rcases hb with rfl | hb
   ·exact has _ _ hx
   ·exact h.1 b hb
  ·rw [Bool.not_eq_true] at hx
   rw [if_neg (by rw [hx]; decide), List.pairwise_cons, List.pairwise_cons]
   refine ⟨fun b hb => ?_, h⟩
   rw [List.mem_cons] at hb
   rcases hb with rfl | hb
   ·exact hx
   ·exact hnt _ _ _ hx (h.1 b hb)
theorem sortRev_facts {lt : Int → Int → Bool} (has : ∀ a b, lt a b = true → lt b a = false) (hnt : ∀ a b c, lt a b = false → lt b c = false → lt a c = false) : ∀ (xs r : List Int), r.Pairwise (fun a b => lt a b = false) →
  (sortRev lt r xs).Pairwise (fun a b => lt a b = false) ∧ (sortRev lt r xs).length = r.length + xs.length ∧ (∀ z, z ∈ sortRev lt r xs ↔ z ∈ r ∨ z ∈ xs) ∧ (r.Nodup → xs.Nodup → (∀ z, z ∈ r → z ∉ xs) → (sortRev lt r xs).Nodup)
 | [], r, h => ⟨h, rfl, fun z => by simp [sortRev], fun h _ _ => h⟩
 | x :: xs, r, h => by
  obtain ⟨h1, h2, h3, h4⟩ := sortRev_facts has hnt xs (insRev lt x r) (insRev_sorted has hnt h)
  refine ⟨h1, ?_, fun z => ?_, fun hr hx hd => ?_⟩
  ·show (sortRev lt (insRev lt x r) xs).length = _
   rw [h2, insRev_length, List.length_cons]; omega
  ·show z ∈ sortRev lt (insRev lt x r) xs ↔ _
   rw [h3, insRev_mem, List.mem_cons]
   constructor
   ·rintro ((h | h) | h)
    ·exact Or.inr (Or.inl h)
    ·exact Or.inl h
    ·exact Or.inr (Or.inr h)
   ·rintro (h | h | h)
    ·exact Or.inl (Or.inr h)
    ·exact Or.inl (Or.inl h)
    ·exact Or.inr h
  ·rw [List.nodup_cons] at hx
   refine h4 (insRev_nodup hr (fun e => hd x e (List.mem_cons_self ..))) hx.2 (fun z hz => ?_)
   rw [insRev_mem] at hz
   rcases hz with rfl | hz
   ·exact hx.1
   ·exact fun e => hd z hz (List.mem_cons_of_mem _ e)
structure Sorted (lt : Int → Int → Bool) (xs l : List Int) : Prop where
 ord : l.Pairwise (fun a b => lt b a = false)
 len : l.length = xs.length
 mem : ∀ z, z ∈ l ↔ z ∈ xs
 nodup : xs.Nodup → l.Nodup
theorem sortF_sorted {lt : Int → Int → Bool} (has : ∀ a b, lt a b = true → lt b a = false) (hnt : ∀ a b c, lt a b = false → lt b c = false → lt a c = false) (xs : List Int) : Sorted lt xs (sortF lt xs) := by
 obtain ⟨h1, h2, h3, h4⟩ := sortRev_facts has hnt xs [] List.Pairwise.nil
 unfold sortF
 refine ⟨List.pairwise_reverse.2 h1, by rw [List.length_reverse, h2]; simp, fun z => by rw [List.mem_reverse, h3]; simp, fun h => ?_⟩
 have := h4 List.nodup_nil h (fun z hz => by cases hz)
 unfold List.Nodup at this ⊢
 rw [List.pairwise_reverse]
 exact this.imp (fun h e => h e.symm)
def inB (a b c : Int) : Bool := decide (b ≤ a ∧ a ≤ c)
theorem inB_iff {a b c : Int} : inB a b c = true ↔ b ≤ a ∧ a ≤ c := by unfold inB; exact decide_eq_true_iff
theorem impl_in_f (a b c : Int) : impl_in.f a b c = some (inB a b c) := by
 unfold impl_in.f inB
 by_cases h : b ≤ a <;> by_cases h2 : a ≤ c <;> simp [h, h2]
theorem spec_l1In_f (a b c : Int) : spec_l1In.f a b c = some (inB a b c) := by
 unfold spec_l1In.f inB
 by_cases h : b ≤ a <;> by_cases h2 : a ≤ c <;> simp [h, h2]

def kindsOk (cs : List Int) (i : Nat) : Bool := allFrom cs.length i (fun j => inB (cs.getD j 0) 0 4)
def floorOk (w h : Int) (cs : List Int) : Bool := inB w 1 10 && inB h 1 10 && decide ((cs.length : Int) = w * h) && kindsOk cs 0
theorem spec_FloorOk_l0 (w h : Int) (cs : List Int) (hn : cs.length ≤ BIG) : ∀ (d i : Nat), i + d = cs.length → Ev (fun k => spec_FloorOk.l0 k i w h cs) (kindsOk cs i)
 | 0, i, e => Ev.unroll (by
   simp only [spec_FloorOk.l0]
   simp only [if_neg (show ¬ (i : Int) < cs.length by omega)]
   exact Ev.fin (allFrom_end (by omega)).symm)
 | d + 1, i, e => Ev.unroll (by
   have hi : i < cs.length := by omega
   simp only [spec_FloorOk.l0, spec_l1In_f, some_bind]
   simp only [if_pos (show (i : Int) < cs.length by omega), if_pos (show (0 : Int) ≤ i by omega), wrap_succ hi hn, rd, Int.toNat_natCast]
   by_cases h1 : inB (cs.getD i 0) 0 4 = true
   ·simp only [if_pos h1]
    rw [show kindsOk cs i = kindsOk cs (i + 1) from allFrom_yes hi h1]
    exact spec_FloorOk_l0 w h cs hn d (i + 1) (by omega)
   ·simp only [if_neg h1]
    exact Ev.fin (allFrom_no hi (by simpa using h1)).symm)
theorem impl_FloorOk_l0 (cs : List Int) (hn : cs.length ≤ BIG) : ∀ (d i : Nat), i + d = cs.length → Ev (fun k => impl_FloorOk.l0 k cs cs.length i) (kindsOk cs i)
 | 0, i, e => Ev.unroll (by
   simp only [impl_FloorOk.l0]
   simp only [if_neg (show ¬ (i : Int) < cs.length by omega)]
   exact Ev.fin (allFrom_end (by omega)).symm)
 | d + 1, i, e => Ev.unroll (by
   have hi : i < cs.length := by omega
   simp only [impl_FloorOk.l0, impl_in_f, some_bind]
   simp only [if_pos (show (i : Int) < cs.length by omega), if_pos (show (0 : Int) ≤ i by omega), wrap_succ hi hn, rd, Int.toNat_natCast]
   by_cases h1 : inB (cs.getD i 0) 0 4 = true
   ·simp only [if_pos h1]
    rw [show kindsOk cs i = kindsOk cs (i + 1) from allFrom_yes hi h1]
    exact impl_FloorOk_l0 cs hn d (i + 1) (by omega)
   ·simp only [if_neg h1]
    exact Ev.fin (allFrom_no hi (by simpa using h1)).symm)
theorem inB_mul {w h : Int} (h1 : inB w 1 10 = true) (h2 : inB h 1 10 = true) : wrap64 (w * h) = w * h ∧ 1 ≤ w * h ∧ w * h ≤ 100 := by
 obtain ⟨a, b⟩ := inB_iff.1 h1
 obtain ⟨c, d⟩ := inB_iff.1 h2
 have e1 : 1 * 1 ≤ w * h := Int.mul_le_mul a c (by omega) (by omega)
 have e2 : w * h ≤ 10 * 10 := Int.mul_le_mul b d (by omega) (by omega)
 exact ⟨wrap_id (by omega) (by omega), by omega, by omega⟩
theorem spec_FloorOk_f (w h : Int) (cs : List Int) (hn : cs.length ≤ BIG) : Ev (fun k => spec_FloorOk.f k w h cs) (floorOk w h cs) := by
 unfold spec_FloorOk.f floorOk
 simp only [spec_l1In_f, some_bind]
 by_cases h1 : inB w 1 10 = true
 ·simp only [if_pos h1]
  by_cases h2 : inB h 1 10 = true
  ·simp only [if_pos h2, (inB_mul h1 h2).1]
   refine Ev.unroll ?_
   simp only [spec_FloorOk.j0]
   by_cases h3 : (cs.length : Int) = w * h
   ·simp only [h3, bne_self_eq_false, Bool.false_eq_true, if_false, h1, h2, Bool.true_and, decide_true]
    exact spec_FloorOk_l0 w h cs hn cs.length 0 (by omega)
   ·simp only [if_pos (show ((cs.length : Int) != w * h) = true by simpa using h3)]
    exact Ev.fin (by simp [h3])
  ·simp only [if_neg h2]
   refine Ev.unroll ?_
   simp only [spec_FloorOk.j0, if_true]
   exact Ev.fin (by rw [Bool.not_eq_true] at h2; rw [h2]; simp)
 ·simp only [if_neg h1]
  refine Ev.unroll ?_
  simp only [spec_FloorOk.j0, if_true]
  exact Ev.fin (by rw [Bool.not_eq_true] at h1; rw [h1]; simp)
theorem impl_FloorOk_f (w h : Int) (cs : List Int) (hn : cs.length ≤ BIG) : Ev (fun k => impl_FloorOk.f k w h cs) (floorOk w h cs) := by
 unfold impl_FloorOk.f floorOk
 simp only [impl_in_f, some_bind]
 by_cases h1 : inB w 1 10 = true
 ·simp only [if_pos h1]
  by_cases h2 : inB h 1 10 = true
  ·simp only [if_pos h2, (inB_mul h1 h2).1]
   refine Ev.unroll ?_
   simp only [impl_FloorOk.j0]
   by_cases h3 : (cs.length : Int) = w * h
   ·simp only [h3, bne_self_eq_false, Bool.false_eq_true, if_false, h1, h2, Bool.true_and, decide_true]
    rw [← h3]
    exact impl_FloorOk_l0 cs hn cs.length 0 (by omega)
   ·simp only [if_pos (show ((cs.length : Int) != w * h) = true by simpa using h3)]
    exact Ev.fin (by simp [h3])
  ·simp only [if_neg h2]
   refine Ev.unroll ?_
   simp only [impl_FloorOk.j0, if_true]
   exact Ev.fin (by rw [Bool.not_eq_true] at h2; rw [h2]; simp)
 ·simp only [if_neg h1]
  refine Ev.unroll ?_
  simp only [impl_FloorOk.j0, if_true]
  exact Ev.fin (by rw [Bool.not_eq_true] at h1; rw [h1]; simp)

theorem impl_isCell_f (w h : Int) (cs : List Int) (c : Int) (hn : cs.length ≤ BIG) : impl_isCell.f w h cs c = some (inB c 0 ((cs.length : Int) - 1)) := by
 unfold impl_isCell.f
 unfold BIG at hn
 rw [wrap_id (by omega) (by omega), impl_in_f]
 rfl

def kindAt (w h : Int) (cs : List Int) (c : Int) : Int := if (floorOk w h cs && inB c 0 ((cs.length : Int) - 1)) = true then cs.getD c.toNat 0 else 0
theorem impl_KindAt_f (w h : Int) (cs : List Int) (c : Int) (hn : cs.length ≤ BIG) : Ev (fun k => impl_KindAt.f k w h cs c) (kindAt w h cs c) := by
 unfold impl_KindAt.f kindAt
 refine Ev.bind (impl_FloorOk_f w h cs hn) ?_
 by_cases h1 : floorOk w h cs = true
 ·simp only [if_pos h1, impl_isCell_f w h cs c hn, some_bind]
  by_cases h2 : inB c 0 ((cs.length : Int) - 1) = true
  ·have h3 := inB_iff.1 h2
   simp only [if_pos h2, if_pos (show 0 ≤ c by omega), if_pos (show c < (cs.length : Int) by omega), h1, h2, Bool.true_and, if_true]
   exact Ev.now _
  ·simp only [if_neg h2, h1, Bool.true_and]
   exact Ev.now _
 ·simp only [if_neg h1]
  rw [Bool.not_eq_true] at h1
  exact Ev.fin (by rw [h1]; rfl)

theorem kindAt_rd {w h : Int} {cs : List Int} {c : Int} (hf : floorOk w h cs = true) (h0 : 0 ≤ c) (h1 : c < (cs.length : Int)) : kindAt w h cs c = rd cs c := by
 unfold kindAt
 rw [if_pos (by rw [hf, Bool.true_and, inB_iff]; omega)]; rfl

def besideL (w h c : Int) : List Int :=
 (if c / w > 0 then [c - w] else []) ++ ((if c % w > 0 then [c - 1] else []) ++ ((if c % w < w - 1 then [c + 1] else []) ++ (if c / w < h - 1 then [c + w] else [])))
theorem besideL_le (w h c : Int) : (besideL w h c).length ≤ 4 := by
 unfold besideL
 split <;> split <;> split <;> split <;> simp
structure Fits (w h c : Int) : Prop where
 w1 : 1 ≤ w
 w2 : w ≤ 10
 h1 : 1 ≤ h
 h2 : h ≤ 10
 c1 : 0 ≤ c
 c2 : c < w * h
theorem Fits.area {w h c : Int} (f : Fits w h c) : w * h ≤ 100 := by
 have e2 : w * h ≤ 10 * 10 := Int.mul_le_mul f.w2 f.h2 (by have := f.h1; omega) (by omega)
 omega
theorem Fits.quot {w h c : Int} (f : Fits w h c) : 0 ≤ c / w ∧ c / w < h ∧ c = w * (c / w) + c % w ∧ 0 ≤ c % w ∧ c % w < w := by
 refine ⟨Int.ediv_nonneg f.c1 (by have := f.w1; omega), ?_, (Int.mul_ediv_add_emod c w).symm, Int.emod_nonneg _ (by have := f.w1; omega), Int.emod_lt_of_pos _ (by have := f.w1; omega)⟩
 apply Int.ediv_lt_of_lt_mul (by have := f.w1; omega)
 have := f.c2
 rw [Int.mul_comm]; exact this
theorem Fits.tdiv {w h c : Int} (f : Fits w h c) : wrap64 (Int.tdiv c w) = c / w := by
 have q := f.quot; have a := f.h2
 rw [Int.tdiv_eq_ediv_of_nonneg f.c1, wrap_id (by omega) (by omega)]
theorem Fits.tmod {w h c : Int} (f : Fits w h c) : Int.tmod c w = c % w := Int.tmod_eq_emod_of_nonneg f.c1
theorem mem_besideL {w h c x : Int} (f : Fits w h c) (hx : x ∈ besideL w h c) : 0 ≤ x ∧ x < w * h := by
 obtain ⟨q1, q2, q3, q4, q5⟩ := f.quot
 have hc := f.c2; have hw := f.w1
 unfold besideL at hx
 simp only [List.mem_append] at hx
 have up : c / w > 0 → w ≤ w * (c / w) := fun h => by have := Int.mul_le_mul_of_nonneg_left (show (1 : Int) ≤ c / w by omega) (show 0 ≤ w by omega); rw [Int.mul_one] at this; exact this
 have down : c / w < h - 1 → w * (c / w) + w * 2 ≤ w * h := fun hh => by
  have := Int.mul_le_mul_of_nonneg_left (show c / w + 2 ≤ h by omega) (show 0 ≤ w by omega)
  rw [Int.mul_add] at this; exact this
 have right : w * (c / w) + w ≤ w * h := by
  have := Int.mul_le_mul_of_nonneg_left (show c / w + 1 ≤ h by omega) (show 0 ≤ w by omega)
  rw [Int.mul_add, Int.mul_one] at this; exact this
 have hm0 : 0 ≤ w * (c / w) := Int.mul_nonneg (by omega) q1
 generalize w * (c / w) = m at *
 generalize w * h = n at *
 generalize c % w = r at *
 generalize c / w = q at *
 rcases hx with hx | hx | hx | hx <;> split at hx <;> simp only [List.mem_singleton, List.not_mem_nil] at hx
 ·rename_i g; have := up g; omega
 ·omega
 ·omega
 ·rename_i g; have := down g; omega
def nearL (w h : Int) (cs : List Int) (c : Int) (loaded : Bool) : List Int := (besideL w h c).filter (fun x => !(rd cs x == 0) && !(loaded && rd cs x == 2))
theorem nearL_le (w h : Int) (cs : List Int) (c : Int) (loaded : Bool) : (nearL w h cs c loaded).length ≤ 4 := Nat.le_trans (List.length_filter_le _ _) (besideL_le w h c)
theorem mem_nearL {w h : Int} {cs : List Int} {c x : Int} {loaded : Bool} : x ∈ nearL w h cs c loaded ↔ x ∈ besideL w h c ∧ rd cs x ≠ 0 ∧ (loaded = true → rd cs x ≠ 2) := by
 unfold nearL
 rw [List.mem_filter]
 cases loaded <;> simp

theorem floorOk_size {w h : Int} {cs : List Int} (h1 : floorOk w h cs = true) : 1 ≤ w ∧ w ≤ 10 ∧ 1 ≤ h ∧ h ≤ 10 ∧ (cs.length : Int) = w * h := by
 unfold floorOk at h1
 simp only [Bool.and_eq_true, inB_iff, decide_eq_true_eq] at h1
 exact ⟨h1.1.1.1.1, h1.1.1.1.2, h1.1.1.2.1, h1.1.1.2.2, h1.1.2⟩
theorem floorOk_area {w h : Int} {cs : List Int} (h1 : floorOk w h cs = true) : cs.length ≤ 100 := by
 obtain ⟨a1, a2, a3, a4, a5⟩ := floorOk_size h1
 have e2 : w * h ≤ 10 * 10 := Int.mul_le_mul a2 a4 (by omega) (by omega)
 omega

def robAt (l : List S37) (j : Nat) : S37 := l.getD j z37
def cellB (cs : List Int) (c : Int) : Bool := inB c 0 ((cs.length : Int) - 1) && !decide (rd cs c = 0)
def robotOk (cs : List Int) (r : S37) : Bool := inB r.f0 1 99 && (cellB cs r.f1 && ((decide (r.f2 = -1) || cellB cs r.f2) && inB r.f4 0 1000000))
def notThere (l : List S37) (i : Nat) : Nat → Bool := fun k => !decide ((robAt l k).f1 = (robAt l i).f1)
def robotAtOk (cs : List Int) (l : List S37) (i : Nat) : Bool := robotOk cs (robAt l i) && ((decide (i = 0) || decide ((robAt l (i - 1)).f0 < (robAt l i).f0)) && allFrom i 0 (notThere l i))
def crewOk (w h : Int) (cs : List Int) (l : List S37) : Bool := floorOk w h cs && (decide (l.length ≤ 20) && allFrom l.length 0 (robotAtOk cs l))
theorem rd_rob {l : List S37} {i : Nat} : rd_T37 l (i : Int) = robAt l i := by unfold rd_T37 robAt; rw [Int.toNat_natCast]
theorem wrap_pr {i : Nat} (h : i < 9223372036854775807) (h0 : 0 < i) : wrap64 ((i : Int) - 1) = ((i - 1 : Nat) : Int) := by unfold wrap64; omega
theorem cellB_kind {w h : Int} {cs : List Int} (hf : floorOk w h cs = true) (c : Int) : kindAt w h cs c = 0 ↔ cellB cs c = false := by
 unfold cellB
 by_cases h1 : inB c 0 ((cs.length : Int) - 1) = true
 ·have := inB_iff.1 h1
  rw [kindAt_rd hf this.1 (by omega), h1, Bool.true_and]
  simp
 ·have : kindAt w h cs c = 0 := by unfold kindAt; rw [if_neg (by simp [hf, h1])]
  rw [Bool.not_eq_true] at h1
  rw [this, h1]; simp
theorem impl_standsOk_f (w h : Int) (cs : List Int) (r : S37) (hf : floorOk w h cs = true) : Ev (fun k => impl_standsOk.f k w h cs r.f0 r.f1 r.f2 r.f3 r.f4) (cellB cs r.f1 && (decide (r.f2 = -1) || cellB cs r.f2)) := by
 have ha := floorOk_area hf
 have hB : cs.length ≤ BIG := by unfold BIG; omega
 have k1 := cellB_kind hf r.f1
 have k2 := cellB_kind hf r.f2
 unfold impl_standsOk.f
 refine Ev.bind (impl_KindAt_f w h cs r.f1 hB) ?_
 by_cases h1 : kindAt w h cs r.f1 = 0
 ·rw [k1.1 h1]
  exact Ev.ifp h1 (Ev.now _)
 ·have e1 : cellB cs r.f1 = true := by cases e : cellB cs r.f1; exact absurd (k1.2 e) h1; rfl
  rw [e1, Bool.true_and]
  refine Ev.ifn h1 ?_
  by_cases h2 : r.f2 = -1
  ·rw [decide_eq_true h2]
   exact Ev.ifp h2 (Ev.now _)
  ·rw [decide_eq_false h2, Bool.false_or]
   refine Ev.ifn h2 (Ev.bind (impl_KindAt_f w h cs r.f2 hB) (Ev.fin ?_))
   by_cases h3 : kindAt w h cs r.f2 = 0
   ·rw [k2.1 h3, h3]; rfl
   ·have e2 : cellB cs r.f2 = true := by cases e : cellB cs r.f2; exact absurd (k2.2 e) h3; rfl
    rw [e2]; simp [h3]
theorem impl_CrewOk_l1 (w h : Int) (cs : List Int) (l ys : List S37) (i : Nat) (hn : l.length ≤ 20) (hi : i < l.length) (hy : ys = l.take i) (R : Bool) (hR : Ev (fun k => impl_CrewOk.l0 k l l l.length ((i + 1 : Nat) : Int) w h cs) R) : ∀ (d j : Nat), j + d = i → Ev (fun k => impl_CrewOk.l1 k l l l.length i ys ys.length j w h cs (robAt l i).f0 (robAt l i).f1 (robAt l i).f2 (robAt l i).f3 (robAt l i).f4) (allFrom i j (notThere l i) && R)
 | 0, j, e => Ev.unroll (by
   have hl : ys.length = i := by rw [hy]; simp; omega
   simp only [impl_CrewOk.l1, wrap_sc (show i < 9223372036854775807 by omega)]
   rw [allFrom_end (by omega), Bool.true_and]
   exact Ev.ifn (by omega) hR)
 | d + 1, j, e => Ev.unroll (by
   have hl : ys.length = i := by rw [hy]; simp; omega
   have hj : robAt ys j = robAt l j := by unfold robAt; rw [getD_at (by omega), getD_at (by omega)]; simp [hy]
   have ih := impl_CrewOk_l1 w h cs l ys i hn hi hy R hR d (j + 1) (by omega)
   simp only [impl_CrewOk.l1, rd_rob, wrap_sc (show j < 9223372036854775807 by omega)]
   rw [allFrom_step (by omega), hj]
   refine Ev.ifp (by omega) (Ev.ifp (by omega) (Ev.ifp (by omega) ?_))
   refine ev_ite' (fun h1 => Ev.fin ?_) (fun h1 => ?_)
   ·unfold notThere; rw [decide_eq_true h1]; rfl
   ·rw [show notThere l i j = true by unfold notThere; rw [decide_eq_false h1]; rfl, Bool.true_and]
    exact ih)
theorem impl_CrewOk_l0 (w h : Int) (cs : List Int) (hf : floorOk w h cs = true) (l : List S37) (hn : l.length ≤ 20) : ∀ (d i : Nat), i + d = l.length → Ev (fun k => impl_CrewOk.l0 k l l l.length i w h cs) (allFrom l.length i (robotAtOk cs l))
 | 0, i, e => Ev.unroll (by
   simp only [impl_CrewOk.l0]
   exact Ev.ifn (by omega) (Ev.fin (allFrom_end (by omega)).symm))
 | d + 1, i, e => Ev.unroll (by
   have hi : i < l.length := by omega
   have ih := impl_CrewOk_l0 w h cs hf l hn d (i + 1) (by omega)
   have st := impl_standsOk_f w h cs (robAt l i) hf
   simp only [impl_CrewOk.l0, impl_in_f, some_bind, rd_rob]
   rw [allFrom_step hi]
   have no : robotAtOk cs l i = false → Ev (fun k => impl_CrewOk.j2 k l i l l.length i true w h cs (robAt l i).f0 (robAt l i).f1 (robAt l i).f2 (robAt l i).f3 (robAt l i).f4) (robotAtOk cs l i && allFrom l.length (i + 1) (robotAtOk cs l)) := fun e => Ev.unroll (by
    simp only [impl_CrewOk.j2]
    exact Ev.ifp trivial (Ev.fin (by rw [e]; rfl)))
   have yes : robotOk cs (robAt l i) = true → (i = 0 ∨ (robAt l (i - 1)).f0 < (robAt l i).f0) → Ev (fun k => impl_CrewOk.j2 k l i l l.length i false w h cs (robAt l i).f0 (robAt l i).f1 (robAt l i).f2 (robAt l i).f3 (robAt l i).f4) (robotAtOk cs l i && allFrom l.length (i + 1) (robotAtOk cs l)) := fun e e2 => Ev.unroll (by
    simp only [impl_CrewOk.j2, some_bind, Int.toNat_natCast]
    rw [show robotAtOk cs l i = allFrom i 0 (notThere l i) by unfold robotAtOk; rw [e, Bool.true_and, show (decide (i = 0) || decide ((robAt l (i - 1)).f0 < (robAt l i).f0)) = true by rcases e2 with h | h <;> simp [h], Bool.true_and]]
    exact Ev.ifn (by simp) (Ev.ifp (by omega) (Ev.ifp (by omega) (impl_CrewOk_l1 w h cs l _ i hn hi rfl _ ih i 0 (by omega)))))
   have rest : inB (robAt l i).f0 1 99 = true → (i = 0 ∨ (robAt l (i - 1)).f0 < (robAt l i).f0) → Ev (fun k => (impl_standsOk.f k w h cs (robAt l i).f0 (robAt l i).f1 (robAt l i).f2 (robAt l i).f3 (robAt l i).f4).bind fun t => if t = true then impl_CrewOk.j2 k l i l l.length i (!inB (robAt l i).f4 0 1000000) w h cs (robAt l i).f0 (robAt l i).f1 (robAt l i).f2 (robAt l i).f3 (robAt l i).f4 else impl_CrewOk.j2 k l i l l.length i true w h cs (robAt l i).f0 (robAt l i).f1 (robAt l i).f2 (robAt l i).f3 (robAt l i).f4) (robotAtOk cs l i && allFrom l.length (i + 1) (robotAtOk cs l)) := fun h1 h2 => by
    refine Ev.bind st (ev_ite' (fun h3 => ?_) (fun h3 => no ?_))
    ·rw [Bool.and_eq_true] at h3
     by_cases h4 : inB (robAt l i).f4 0 1000000 = true
     ·rw [h4]
      exact yes (by unfold robotOk; rw [h1, h3.1, h3.2, h4]; rfl) h2
     ·rw [Bool.not_eq_true] at h4
      rw [h4]
      exact no (by unfold robotAtOk robotOk; rw [h4]; simp)
    ·unfold robotAtOk robotOk
     rw [Bool.not_eq_true, Bool.and_eq_false_iff] at h3
     rcases h3 with h3 | h3 <;> rw [h3] <;> simp
   refine Ev.ifp (by omega) (Ev.ifp (by omega) (Ev.ifp (by omega) (ev_ite' (fun h1 => ?_) (fun h1 => no ?_))))
   ·by_cases h0 : 0 < i
    ·rw [wrap_pr (by omega) h0]
     simp only [rd_rob]
     refine Ev.ifp (by omega) (Ev.ifp (by omega) (Ev.ifp (by omega) (ev_ite' (fun h4 => no ?_) (fun h4 => rest h1 (Or.inr (by omega))))))
     unfold robotAtOk; rw [decide_eq_false (by omega), decide_eq_false (by omega)]; simp
    ·exact Ev.ifn (by omega) (rest h1 (Or.inl (by omega)))
   ·unfold robotAtOk robotOk; rw [Bool.not_eq_true] at h1; rw [h1]; simp)
theorem impl_CrewOk_f (w h : Int) (cs : List Int) (l : List S37) (hn : cs.length ≤ BIG) : Ev (fun k => impl_CrewOk.f k w h cs l) (crewOk w h cs l) := by
 unfold impl_CrewOk.f crewOk
 refine Ev.bind (impl_FloorOk_f w h cs hn) ?_
 by_cases hf : floorOk w h cs = true
 ·refine Ev.ifp hf (Ev.unroll ?_)
  rw [hf, Bool.true_and]
  by_cases h20 : l.length ≤ 20
  ·simp only [impl_CrewOk.j0, decide_eq_true h20, decide_eq_false (show ¬ ((l.length : Int) > 20) by omega), Bool.true_and]
   exact Ev.ifn (by simp) (impl_CrewOk_l0 w h cs hf l h20 l.length 0 (by omega))
  ·simp only [impl_CrewOk.j0, decide_eq_false h20, decide_eq_true (show ((l.length : Int) > 20) by omega), Bool.false_and]
   exact Ev.ifp trivial (Ev.now _)
 ·refine Ev.ifn hf (Ev.unroll ?_)
  rw [Bool.not_eq_true] at hf
  simp only [impl_CrewOk.j0, hf, Bool.false_and]
  exact Ev.ifp trivial (Ev.now _)
theorem turnsLt_eq (l : List S37) (a b : Int) : turnsLt l a b = true ↔ (rd_T37 l a).f4 > (rd_T37 l b).f4 ∨ ((rd_T37 l a).f4 = (rd_T37 l b).f4 ∧ (rd_T37 l a).f0 < (rd_T37 l b).f0) := by
 unfold turnsLt
 rw [Bool.or_eq_true, Bool.and_eq_true, decide_eq_true_eq, decide_eq_true_eq, decide_eq_true_eq]
theorem turnsLt_no (l : List S37) (a b : Int) : turnsLt l a b = false ↔ ¬ ((rd_T37 l a).f4 > (rd_T37 l b).f4 ∨ ((rd_T37 l a).f4 = (rd_T37 l b).f4 ∧ (rd_T37 l a).f0 < (rd_T37 l b).f0)) := by
 rw [← turnsLt_eq, Bool.not_eq_true]
theorem turns_as (l : List S37) (a b : Int) : turnsLt l a b = true → turnsLt l b a = false := by
 rw [turnsLt_eq, turnsLt_no]; omega
theorem turns_nt (l : List S37) (a b c : Int) : turnsLt l a b = false → turnsLt l b c = false → turnsLt l a c = false := by
 rw [turnsLt_no, turnsLt_no, turnsLt_no]; omega
theorem upto_mem' {n : Nat} {x : Int} : x ∈ upto n ↔ 0 ≤ x ∧ x < (n : Int) := by
 unfold upto
 rw [List.mem_map]
 constructor
 ·rintro ⟨i, hi, rfl⟩
  have := List.mem_range.1 hi
  omega
 ·rintro ⟨h0, h1⟩
  exact ⟨x.toNat, List.mem_range.2 (by omega), by omega⟩
theorem upto_len' (n : Nat) : (upto n).length = n := by simp [upto]
def turnsOf (l : List S37) : List Int := sortF (turnsLt l) (upto l.length)
theorem turns_sorted (l : List S37) : Sorted (turnsLt l) (upto l.length) (turnsOf l) := sortF_sorted (turns_as l) (turns_nt l) _
theorem impl_Turns_f (l : List S37) (h : l.length ≤ 20) : impl_Turns.f l = some (turnsOf l) := by
 unfold impl_Turns.f turnsOf
 rw [if_pos h, sortL_eq]

theorem spec_l1Beside_f (w h : Int) (cs : List Int) (c : Int) (f : Fits w h c) : Ev (fun k => spec_l1Beside.f k w h cs c) (besideL w h c) := by
  have a := f.area; have w1 := f.w1; have w2 := f.w2; have h1 := f.h1; have h2 := f.h2; have c1 := f.c1; have c2 := f.c2
  unfold spec_l1Beside.f
  simp only [some_bind, if_neg (show ¬ w = 0 by omega), f.tdiv, f.tmod, wrap_id (show -9223372036854775808 ≤ c - w by omega) (by omega), List.length_nil, if_pos (show 0 < 17592186044416 by omega), List.nil_append]
  unfold besideL
  by_cases b1 : c / w > 0 <;> by_cases b2 : c % w > 0 <;> by_cases b3 : c % w < w - 1 <;> by_cases b4 : c / w < h - 1 <;>
    (simp only [b1, if_true, if_false]
     refine Ev.unroll ?_
     simp only [spec_l1Beside.j0, b2, if_true, if_false, List.length_cons, List.length_nil, List.length_append, if_pos (show 0 < 17592186044416 by omega), if_pos (show 0 + 1 < 17592186044416 by omega), wrap_id (show -9223372036854775808 ≤ c - 1 by omega) (by omega)]
     refine Ev.unroll ?_
     simp only [spec_l1Beside.j1, wrap_id (show -9223372036854775808 ≤ w - 1 by omega) (by omega), wrap_id (show -9223372036854775808 ≤ h - 1 by omega) (by omega), wrap_id (show -9223372036854775808 ≤ c + 1 by omega) (by omega), wrap_id (show -9223372036854775808 ≤ c + w by omega) (by omega),
       b3, b4, if_true, if_false, some_bind, List.length_cons, List.length_nil, List.length_append, if_pos (show 0 < 17592186044416 by omega), if_pos (show 0 + 1 < 17592186044416 by omega), if_pos (show 0 + 1 + 1 < 17592186044416 by omega), if_pos (show 0 + 1 + (0 + 1) < 17592186044416 by omega), if_pos (show 0 + 1 + 1 + (0 + 1) < 17592186044416 by omega), if_pos (show 0 + 1 + (0 + 1) + (0 + 1) < 17592186044416 by omega)]
     exact Ev.fin (by simp))
theorem spec_l1Near_l0 (w h : Int) (cs : List Int) (loaded : Bool) (bs : List Int) (hb : bs.length ≤ 4) (hr : ∀ x ∈ bs, 0 ≤ x ∧ x < (cs.length : Int)) : ∀ (d i : Nat) (acc : List Int), i + d = bs.length → acc.length ≤ i →
  Ev (fun k => spec_l1Near.l0 k loaded acc bs i w h cs) (acc ++ (bs.drop i).filter (fun x => !(rd cs x == 0) && !(loaded && rd cs x == 2)))
 | 0, i, acc, e, ha => Ev.unroll (by
   simp only [spec_l1Near.l0]
   simp only [if_neg (show ¬ (i : Int) < bs.length by omega)]
   exact Ev.fin (by rw [drop_end (by omega)]; simp))
 | d + 1, i, acc, e, ha => Ev.unroll (by
   have hi : i < bs.length := by omega
   have hx := hr bs[i] (List.getElem_mem hi)
   simp only [spec_l1Near.l0]
   simp only [if_pos (show (i : Int) < bs.length by omega), if_pos (show (0 : Int) ≤ i by omega), wrap_succ hi (show _ ≤ BIG by unfold BIG; omega), rd_nat hi, if_pos hx.1, if_pos hx.2, if_pos (show acc.length < 17592186044416 by omega)]
   rw [drop_cons hi, List.filter_cons]
   have ih := spec_l1Near_l0 w h cs loaded bs hb hr d (i + 1)
   by_cases h0 : rd cs bs[i] = 0
   ·simp only [if_pos h0]
    rw [if_neg (by rw [h0]; simp)]
    exact ih acc (by omega) (by omega)
   ·simp only [if_neg h0]
    cases loaded with
    | false =>
     simp only [Bool.false_eq_true, if_false]
     rw [if_pos (by simpa using h0)]
     have h9 := ih (acc ++ [bs[i]]) (by omega) (by simp; omega)
     rw [List.append_assoc] at h9
     exact h9
    | true =>
     simp only [if_true]
     by_cases h2 : rd cs bs[i] = 2
     ·simp only [if_pos h2]
      rw [if_neg (by rw [h2]; simp)]
      exact ih acc (by omega) (by omega)
     ·simp only [if_neg h2]
      rw [if_pos (by simp [h0, h2])]
      have h9 := ih (acc ++ [bs[i]]) (by omega) (by simp; omega)
      rw [List.append_assoc] at h9
      exact h9)
theorem spec_l1Near_f (w h : Int) (cs : List Int) (c : Int) (loaded : Bool) (f : Fits w h c) (hl : (cs.length : Int) = w * h) : Ev (fun k => spec_l1Near.f k w h cs c loaded) (nearL w h cs c loaded) := by
 unfold spec_l1Near.f
 refine Ev.bind (spec_l1Beside_f w h cs c f) ?_
 exact spec_l1Near_l0 w h cs loaded _ (besideL_le w h c) (fun x hx => by rw [hl]; exact mem_besideL f hx) (besideL w h c).length 0 [] (by omega) (by simp)

theorem impl_beside_f (w h : Int) (cs : List Int) (c : Int) (f : Fits w h c) : Ev (fun k => impl_beside.f k w h cs c) (besideL w h c) := by
  have a := f.area; have w1 := f.w1; have w2 := f.w2; have h1 := f.h1; have h2 := f.h2; have c1 := f.c1; have c2 := f.c2
  unfold impl_beside.f
  simp only [some_bind, if_neg (show ¬ w = 0 by omega), f.tdiv, f.tmod, wrap_id (show -9223372036854775808 ≤ c - w by omega) (by omega), List.length_nil, if_pos (show 0 < 17592186044416 by omega), List.nil_append]
  unfold besideL
  by_cases b1 : c / w > 0 <;> by_cases b2 : c % w > 0 <;> by_cases b3 : c % w < w - 1 <;> by_cases b4 : c / w < h - 1 <;>
    (simp only [b1, if_true, if_false]
     refine Ev.unroll ?_
     simp only [impl_beside.j0, b2, if_true, if_false, List.length_cons, List.length_nil, List.length_append, if_pos (show 0 < 17592186044416 by omega), if_pos (show 0 + 1 < 17592186044416 by omega), wrap_id (show -9223372036854775808 ≤ c - 1 by omega) (by omega)]
     refine Ev.unroll ?_
     simp only [impl_beside.j1, wrap_id (show -9223372036854775808 ≤ w - 1 by omega) (by omega), wrap_id (show -9223372036854775808 ≤ h - 1 by omega) (by omega), wrap_id (show -9223372036854775808 ≤ c + 1 by omega) (by omega), wrap_id (show -9223372036854775808 ≤ c + w by omega) (by omega),
       b3, b4, if_true, if_false, some_bind, List.length_cons, List.length_nil, List.length_append, if_pos (show 0 < 17592186044416 by omega), if_pos (show 0 + 1 < 17592186044416 by omega), if_pos (show 0 + 1 + 1 < 17592186044416 by omega), if_pos (show 0 + 1 + (0 + 1) < 17592186044416 by omega), if_pos (show 0 + 1 + 1 + (0 + 1) < 17592186044416 by omega), if_pos (show 0 + 1 + (0 + 1) + (0 + 1) < 17592186044416 by omega)]
     exact Ev.fin (by simp))
theorem impl_near_l0 (w h : Int) (cs : List Int) (loaded : Bool) (bs : List Int) (hb : bs.length ≤ 4) (hr : ∀ x ∈ bs, 0 ≤ x ∧ x < (cs.length : Int)) : ∀ (d i : Nat) (acc : List Int), i + d = bs.length → acc.length ≤ i →
  Ev (fun k => impl_near.l0 k loaded acc bs bs.length i w h cs) (acc ++ (bs.drop i).filter (fun x => !(rd cs x == 0) && !(loaded && rd cs x == 2)))
 | 0, i, acc, e, ha => Ev.unroll (by
   simp only [impl_near.l0]
   simp only [if_neg (show ¬ (i : Int) < bs.length by omega)]
   exact Ev.fin (by rw [drop_end (by omega)]; simp))
 | d + 1, i, acc, e, ha => Ev.unroll (by
   have hi : i < bs.length := by omega
   have hx := hr bs[i] (List.getElem_mem hi)
   simp only [impl_near.l0]
   simp only [if_pos (show (i : Int) < bs.length by omega), if_pos (show (0 : Int) ≤ i by omega), wrap_succ hi (show _ ≤ BIG by unfold BIG; omega), rd_nat hi, if_pos hx.1, if_pos hx.2, if_pos (show acc.length < 17592186044416 by omega)]
   rw [drop_cons hi, List.filter_cons]
   have ih := impl_near_l0 w h cs loaded bs hb hr d (i + 1)
   by_cases h0 : rd cs bs[i] = 0
   ·simp only [if_pos h0]
    rw [if_neg (by rw [h0]; simp)]
    exact ih acc (by omega) (by omega)
   ·simp only [if_neg h0]
    cases loaded with
    | false =>
     simp only [Bool.false_eq_true, if_false]
     rw [if_pos (by simpa using h0)]
     have h9 := ih (acc ++ [bs[i]]) (by omega) (by simp; omega)
     rw [List.append_assoc] at h9
     exact h9
    | true =>
     simp only [if_true]
     by_cases h2 : rd cs bs[i] = 2
     ·simp only [if_pos h2]
      rw [if_neg (by rw [h2]; simp)]
      exact ih acc (by omega) (by omega)
     ·simp only [if_neg h2]
      rw [if_pos (by simp [h0, h2])]
      have h9 := ih (acc ++ [bs[i]]) (by omega) (by simp; omega)
      rw [List.append_assoc] at h9
      exact h9)
theorem impl_near_f (w h : Int) (cs : List Int) (c : Int) (loaded : Bool) (f : Fits w h c) (hl : (cs.length : Int) = w * h) : Ev (fun k => impl_near.f k w h cs c loaded) (nearL w h cs c loaded) := by
 unfold impl_near.f
 refine Ev.bind (impl_beside_f w h cs c f) ?_
 exact impl_near_l0 w h cs loaded _ (besideL_le w h c) (fun x hx => by rw [hl]; exact mem_besideL f hx) (besideL w h c).length 0 [] (by omega) (by simp)

theorem fits_of {w h : Int} {cs : List Int} {c : Int} (h1 : floorOk w h cs = true) (h2 : inB c 0 ((cs.length : Int) - 1) = true) : Fits w h c ∧ (cs.length : Int) = w * h := by
 unfold floorOk at h1
 simp only [Bool.and_eq_true, inB_iff, decide_eq_true_eq] at h1
 have h3 := inB_iff.1 h2
 exact ⟨⟨h1.1.1.1.1, h1.1.1.1.2, h1.1.1.2.1, h1.1.1.2.2, by omega, by have := h1.1.2; omega⟩, h1.1.2⟩
def relax (v : Int) : List Int → List Int → List Int → List Int × List Int
 | out, todo, [] => (out, todo)
 | out, todo, c :: l => if rd out c < 0 then relax v (out.set c.toNat v) (todo ++ [c]) l else relax v out todo l
def negs (out : List Int) : Nat := out.countP (fun x => decide (x < 0))
theorem rd_set {xs : List Int} {c : Int} {v : Int} (h0 : 0 ≤ c) (h1 : c < (xs.length : Int)) {i : Int} (hi : 0 ≤ i) : rd (xs.set c.toNat v) i = if i = c then v else rd xs i := by
 unfold rd
 by_cases e : i = c
 ·subst e
  rw [if_pos rfl, getD_at (by rw [List.length_set]; omega), List.getElem_set_self]
 ·rw [if_neg e, List.getD_eq_getElem?_getD, List.getD_eq_getElem?_getD, List.getElem?_set_ne (by omega)]
theorem negs_set {xs : List Int} {c : Int} {v : Int} (h1 : c.toNat < xs.length) (hn : rd xs c < 0) (hv : 0 ≤ v) : negs (xs.set c.toNat v) + 1 = negs xs := by
 unfold negs
 rw [List.countP_set h1]
 have e : xs[c.toNat] < 0 := by unfold rd at hn; rwa [getD_at h1] at hn
 have hp : 0 < xs.countP (fun x => decide (x < 0)) := List.countP_pos_iff.2 ⟨xs[c.toNat], List.getElem_mem h1, by simpa using e⟩
 simp only [decide_eq_true_eq, if_pos e, if_neg (show ¬ v < 0 by omega)]
 omega
structure Relaxed (v : Int) (out todo0 l out' todo' : List Int) : Prop where
 len : out'.length = out.length
 val : ∀ c : Int, 0 ≤ c → rd out' c = if rd out c < 0 ∧ c ∈ l then v else rd out c
 todo : ∃ new, todo' = todo0 ++ new ∧ ∀ c, c ∈ new ↔ c ∈ l ∧ rd out c < 0
 size : negs out' + todo'.length = negs out + todo0.length
theorem relax_spec (v : Int) (hv : 0 ≤ v) : ∀ (l out todo : List Int), (∀ c ∈ l, 0 ≤ c ∧ c < (out.length : Int)) → Relaxed v out todo l (relax v out todo l).1 (relax v out todo l).2
 | [], out, todo, _ => ⟨rfl, fun c _ => by simp [relax], ⟨[], by simp [relax]⟩, rfl⟩
 | c :: l, out, todo, h => by
  have hc := h c (by simp)
  unfold relax
  by_cases h1 : rd out c < 0
  ·rw [if_pos h1]
   have ih := relax_spec v hv l (out.set c.toNat v) (todo ++ [c]) (fun x hx => by rw [List.length_set]; exact h x (by simp [hx]))
   obtain ⟨new, e1, e2⟩ := ih.todo
   refine ⟨by rw [ih.len, List.length_set], fun x hx => ?_, ⟨c :: new, by rw [e1]; simp, fun x => ?_⟩, ?_⟩
   ·rw [ih.val x hx, rd_set hc.1 hc.2 hx]
    by_cases e : x = c
    ·subst e; simp [h1, show ¬ v < 0 by omega]
    ·simp [e]
   ·rw [List.mem_cons, e2]
    by_cases hx : x = c
    ·subst hx; simp [h1]
    ·by_cases hm : x ∈ l
     ·have hx0 := h x (by simp [hm])
      rw [rd_set hc.1 hc.2 hx0.1, if_neg hx]; simp [hx, hm]
     ·simp [hx, hm]
   ·have h2 := ih.size
    have h3 := negs_set (xs := out) (c := c) (v := v) (by omega) h1 hv
    simp only [List.length_append, List.length_cons, List.length_nil] at h2
    omega
  ·rw [if_neg h1]
   have ih := relax_spec v hv l out todo (fun x hx => h x (by simp [hx]))
   obtain ⟨new, e1, e2⟩ := ih.todo
   refine ⟨ih.len, fun x hx => ?_, ⟨new, e1, fun x => ?_⟩, ih.size⟩
   ·rw [ih.val x hx]
    by_cases e : x = c
    ·subst e; simp [h1]
    ·simp [e]
   ·rw [e2]
    by_cases hx : x = c
    ·subst hx; simp [h1]
    ·simp [hx]
def bfs (nb : Int → List Int) (go : Int → Bool) : Nat → List Int → List Int → List Int
 | 0, out, _ => out
 | _ + 1, out, [] => out
 | k + 1, out, n :: t => if go n = true then bfs nb go k (relax (rd out n + 1) out t (nb n)).1 (relax (rd out n + 1) out t (nb n)).2 else bfs nb go k out t
structure BInv (nb : Int → List Int) (go : Int → Bool) (dst : Int) (n : Nat) (m : Int) (out todo : List Int) : Prop where
 len : out.length = n
 m0 : 0 ≤ m
 low : ∀ c : Int, 0 ≤ c → c < n → -1 ≤ rd out c
 zero : rd out dst = 0
 only : ∀ c : Int, 0 ≤ c → c < n → rd out c = 0 → c = dst
 mem : ∀ c ∈ todo, 0 ≤ c ∧ c < (n : Int) ∧ m ≤ rd out c
 srt : todo.Pairwise (fun a b => rd out a ≤ rd out b)
 top : ∀ c : Int, 0 ≤ c → c < n → rd out c ≤ m + 1
 done : ∀ c : Int, 0 ≤ c → c < n → 0 ≤ rd out c → c ∉ todo → rd out c ≤ m ∧ (go c = true → ∀ v ∈ nb c, 0 ≤ rd out v ∧ rd out v ≤ rd out c + 1)
 pred : ∀ v : Int, 0 ≤ v → v < n → 0 < rd out v → ∃ u : Int, 0 ≤ u ∧ u < n ∧ go u = true ∧ v ∈ nb u ∧ rd out u = rd out v - 1
structure Bfs (nb : Int → List Int) (go : Int → Bool) (dst : Int) (n : Nat) (out : List Int) : Prop where
 len : out.length = n
 low : ∀ c : Int, 0 ≤ c → c < n → -1 ≤ rd out c
 zero : rd out dst = 0
 only : ∀ c : Int, 0 ≤ c → c < n → rd out c = 0 → c = dst
 next : ∀ c : Int, 0 ≤ c → c < n → 0 ≤ rd out c → go c = true → ∀ v ∈ nb c, 0 ≤ rd out v ∧ rd out v ≤ rd out c + 1
 pred : ∀ v : Int, 0 ≤ v → v < n → 0 < rd out v → ∃ u : Int, 0 ≤ u ∧ u < n ∧ go u = true ∧ v ∈ nb u ∧ rd out u = rd out v - 1
theorem bfs_inv {nb : Int → List Int} {go : Int → Bool} {dst : Int} {n : Nat} (hnb : ∀ c : Int, 0 ≤ c → c < n → ∀ v ∈ nb c, 0 ≤ v ∧ v < (n : Int)) (ht : 0 ≤ dst ∧ dst < (n : Int)) :
  ∀ (k : Nat) (m : Int) (out todo : List Int), negs out + todo.length < k → BInv nb go dst n m out todo → Bfs nb go dst n (bfs nb go k out todo)
 | 0, _, _, _, h, _ => by omega
 | k + 1, m, out, [], _, i => ⟨i.len, i.low, i.zero, i.only, fun c h0 h1 h2 h3 => (i.done c h0 h1 h2 (by simp)).2 h3, i.pred⟩
 | k + 1, m, out, x :: t, h, i => by
  obtain ⟨x0, x1, xm⟩ := i.mem x (by simp)
  have hs := List.pairwise_cons.1 i.srt
  have mm : ∀ c : Int, 0 ≤ c → c < n → 0 ≤ rd out c → c ∉ x :: t → rd out c ≤ rd out x := fun c h0 h1 h2 h3 => by have := (i.done c h0 h1 h2 h3).1; omega
  have hm := i.m0
  unfold bfs
  by_cases hg : go x = true
  ·rw [if_pos hg]
   have r := relax_spec (rd out x + 1) (by omega) (nb x) out t (fun c hc => by rw [i.len]; exact hnb x x0 x1 c hc)
   generalize (relax (rd out x + 1) out t (nb x)).1 = o' at r ⊢
   generalize (relax (rd out x + 1) out t (nb x)).2 = t' at r ⊢
   obtain ⟨new, e1, e2⟩ := r.todo
   have hv := r.val
   have hnew : ∀ c ∈ new, 0 ≤ c ∧ c < (n : Int) ∧ rd o' c = rd out x + 1 := fun c hc => by
    have h3 := (e2 c).1 hc
    have h4 := hnb x x0 x1 c h3.1
    exact ⟨h4.1, h4.2, by rw [hv c h4.1, if_pos ⟨h3.2, h3.1⟩]⟩
   have hkeep : ∀ c : Int, 0 ≤ c → 0 ≤ rd out c → rd o' c = rd out c := fun c h0 h1 => by rw [hv c h0, if_neg (by omega)]
   have hmt : ∀ c ∈ t, 0 ≤ c ∧ c < (n : Int) ∧ rd out x ≤ rd out c ∧ rd o' c = rd out c := fun c hc => by
    have h3 := i.mem c (by simp [hc])
    exact ⟨h3.1, h3.2.1, hs.1 c hc, hkeep c h3.1 (by omega)⟩
   have hx' := hkeep x x0 (by omega)
   refine bfs_inv hnb ht k (rd out x) o' t' ?_ ⟨by rw [r.len, i.len], by omega, ?_, ?_, ?_, ?_, ?_, ?_, ?_, ?_⟩
   ·have := r.size
    simp only [List.length_cons] at h
    omega
   ·intro c h0 h1
    have := i.low c h0 h1
    rw [hv c h0]; split <;> omega
   ·rw [hkeep dst ht.1 (by rw [i.zero]; omega), i.zero]
   ·intro c h0 h1 h2
    rw [hv c h0] at h2
    split at h2
    ·omega
    ·exact i.only c h0 h1 h2
   ·intro c hc
    rw [e1, List.mem_append] at hc
    rcases hc with hc | hc
    ·have h3 := hmt c hc; exact ⟨h3.1, h3.2.1, by omega⟩
    ·have h3 := hnew c hc; exact ⟨h3.1, h3.2.1, by omega⟩
   ·rw [e1, List.pairwise_append]
    refine ⟨?_, ?_, ?_⟩
    ·refine List.Pairwise.imp_of_mem ?_ hs.2
     intro a b ha hb hab
     rw [(hmt a ha).2.2.2, (hmt b hb).2.2.2]; exact hab
    ·refine List.Pairwise.imp_of_mem (R := fun _ _ => True) ?_ (List.pairwise_of_forall (fun _ _ => trivial))
     intro a b ha hb _
     rw [(hnew a ha).2.2, (hnew b hb).2.2]; omega
    ·intro a ha b hb
     have h3 := hmt a ha
     have h4 := i.top a h3.1 h3.2.1
     rw [h3.2.2.2, (hnew b hb).2.2]; omega
   ·intro c h0 h1
    rw [hv c h0]
    split
    ·omega
    ·have := i.top c h0 h1; omega
   ·intro c h0 h1 h2 h3
    rw [e1, List.mem_append] at h3
    by_cases hcx : c = x
    ·subst hcx
     rw [hx']
     refine ⟨by omega, fun _ v hvn => ?_⟩
     have hr := hnb c h0 h1 v hvn
     rw [hv v hr.1]
     have h5 := i.top v hr.1 hr.2
     split
     ·omega
     ·rename_i hneg
      have : ¬ rd out v < 0 := fun hh => hneg ⟨hh, hvn⟩
      omega
    ·by_cases hneg : rd out c < 0
     ·by_cases hcn : c ∈ nb x
      ·exact absurd (Or.inr ((e2 c).2 ⟨hcn, hneg⟩)) h3
      ·rw [hv c h0, if_neg (fun hh => hcn hh.2)] at h2; omega
     ·have hct : c ∉ x :: t := by
       intro hh
       rcases List.mem_cons.1 hh with hh | hh
       ·exact hcx hh
       ·exact h3 (Or.inl hh)
      have hd := i.done c h0 h1 (by omega) hct
      rw [hkeep c h0 (by omega)]
      refine ⟨by omega, fun hgo v hvn => ?_⟩
      have h6 := hd.2 hgo v hvn
      have hr := hnb c h0 h1 v hvn
      rw [hkeep v hr.1 h6.1]; exact h6
   ·intro v h0 h1 h2
    rw [hv v h0] at h2 ⊢
    split at h2
    ·rename_i hh
     exact ⟨x, x0, x1, hg, hh.2, by rw [hx', if_pos hh]; omega⟩
    ·rename_i hh
     obtain ⟨u, u0, u1, ug, uv, ud⟩ := i.pred v h0 h1 h2
     exact ⟨u, u0, u1, ug, uv, by rw [if_neg hh, hkeep u u0 (by omega)]; exact ud⟩
  ·rw [if_neg hg]
   refine bfs_inv hnb ht k (rd out x) out t ?_ ⟨i.len, by omega, i.low, i.zero, i.only, ?_, hs.2, ?_, ?_, i.pred⟩
   ·simp only [List.length_cons] at h; omega
   ·intro c hc
    have h3 := i.mem c (by simp [hc]); exact ⟨h3.1, h3.2.1, hs.1 c hc⟩
   ·intro c h0 h1
    have := i.top c h0 h1; omega
   ·intro c h0 h1 h2 h3
    by_cases hcx : c = x
    ·subst hcx
     exact ⟨by omega, fun hh => absurd hh hg⟩
    ·have hd := i.done c h0 h1 h2 (by simp [hcx, h3])
     exact ⟨by omega, hd.2⟩
def bfsFrom (nb : Int → List Int) (go : Int → Bool) (n : Nat) (dst : Int) : List Int := bfs nb go (n + 2) ((List.replicate n (-1 : Int)).set dst.toNat 0) [dst]
theorem rd_replicate {n : Nat} {v c : Int} (h0 : 0 ≤ c) (h1 : c < n) : rd (List.replicate n v) c = v := by
 unfold rd; rw [getD_at (by rw [List.length_replicate]; omega)]; simp
theorem negs_le (l : List Int) : negs l ≤ l.length := List.countP_le_length
theorem bfs_start {nb : Int → List Int} {go : Int → Bool} {dst : Int} {n : Nat} (ht : 0 ≤ dst ∧ dst < (n : Int)) : BInv nb go dst n 0 ((List.replicate n (-1 : Int)).set dst.toNat 0) [dst] := by
 have hv : ∀ c : Int, 0 ≤ c → c < n → rd ((List.replicate n (-1 : Int)).set dst.toNat 0) c = if c = dst then 0 else -1 := fun c h0 h1 => by
  rw [rd_set ht.1 (by rw [List.length_replicate]; exact ht.2) h0, rd_replicate h0 h1]
 refine ⟨by simp, by omega, ?_, ?_, ?_, ?_, by simp, ?_, ?_, ?_⟩
 ·intro c h0 h1; rw [hv c h0 h1]; split <;> omega
 ·rw [hv dst ht.1 ht.2, if_pos rfl]
 ·intro c h0 h1 h2; rw [hv c h0 h1] at h2; split at h2; assumption; omega
 ·intro c hc; obtain rfl := List.mem_singleton.1 hc; exact ⟨ht.1, ht.2, by rw [hv c ht.1 ht.2, if_pos rfl]; omega⟩
 ·intro c h0 h1; rw [hv c h0 h1]; split <;> omega
 ·intro c h0 h1 h2 h3; rw [hv c h0 h1, if_neg (by simpa using h3)] at h2; omega
 ·intro c h0 h1 h2; rw [hv c h0 h1] at h2; split at h2 <;> omega
theorem bfs_from {nb : Int → List Int} {go : Int → Bool} {dst : Int} {n : Nat} (hnb : ∀ c : Int, 0 ≤ c → c < n → ∀ v ∈ nb c, 0 ≤ v ∧ v < (n : Int)) (ht : 0 ≤ dst ∧ dst < (n : Int)) : Bfs nb go dst n (bfsFrom nb go n dst) := by
 refine bfs_inv hnb ht (n + 2) 0 _ _ ?_ (bfs_start ht)
 have := negs_le ((List.replicate n (-1 : Int)).set dst.toNat 0)
 simp only [List.length_set, List.length_replicate] at this
 simp only [List.length_cons, List.length_nil]
 omega

def goF (cs : List Int) (dst : Int) (loaded : Bool) (n : Int) : Bool := decide (n = dst) || !(loaded && (rd cs n == 2))
def nbF (w h : Int) (cs : List Int) (c : Int) : List Int := nearL w h cs c false
def fieldL (w h : Int) (cs : List Int) (dst : Int) (loaded : Bool) : List Int := bfsFrom (nbF w h cs) (goF cs dst loaded) cs.length dst
theorem relax_app (v : Int) : ∀ (l out a t : List Int), relax v out (a ++ t) l = ((relax v out t l).1, a ++ (relax v out t l).2)
 | [], out, a, t => rfl
 | c :: l, out, a, t => by
  unfold relax
  split
  ·rw [List.append_assoc]; exact relax_app v l _ a _
  ·exact relax_app v l out a t
theorem nbF_in {w h : Int} {cs : List Int} (hf : floorOk w h cs = true) : ∀ c : Int, 0 ≤ c → c < (cs.length : Int) → ∀ v ∈ nbF w h cs c, 0 ≤ v ∧ v < (cs.length : Int) := by
 intro c h0 h1 v hv
 obtain ⟨a1, a2, a3, a4, a5⟩ := floorOk_size hf
 have f : Fits w h c := ⟨a1, a2, a3, a4, h0, by omega⟩
 rw [a5]
 exact mem_besideL f (mem_nearL.1 hv).1
theorem fitsAt {w h : Int} {cs : List Int} (hf : floorOk w h cs = true) {c : Int} (h0 : 0 ≤ c) (h1 : c < (cs.length : Int)) : Fits w h c ∧ (cs.length : Int) = w * h := by
 obtain ⟨a1, a2, a3, a4, a5⟩ := floorOk_size hf
 exact ⟨⟨a1, a2, a3, a4, h0, by omega⟩, a5⟩
structure Round (n : Nat) (fuel : Nat) (out todo : List Int) : Prop where
 len : out.length = n
 mem : ∀ c ∈ todo, 0 ≤ c ∧ c < (n : Int) ∧ 0 ≤ rd out c
 top : ∀ c : Int, 0 ≤ c → c < n → rd out c ≤ 1000 - (fuel : Int)
 size : negs out + todo.length < fuel
theorem Round.next {n fuel : Nat} {out t : List Int} {x : Int} {l : List Int} (r : Round n (fuel + 1) out (x :: t)) (hl : ∀ c ∈ l, 0 ≤ c ∧ c < (n : Int)) : Round n fuel (relax (rd out x + 1) out t l).1 (relax (rd out x + 1) out t l).2 := by
 have hx := r.mem x (by simp)
 have hx2 := r.top x hx.1 hx.2.1
 have s := relax_spec (rd out x + 1) (by omega) l out t (fun c hc => by rw [r.len]; exact hl c hc)
 obtain ⟨new, e1, e2⟩ := s.todo
 refine ⟨by rw [s.len, r.len], fun c hc => ?_, fun c h0 h1 => ?_, ?_⟩
 ·rw [e1, List.mem_append] at hc
  rcases hc with hc | hc
  ·have := r.mem c (by simp [hc])
   refine ⟨this.1, this.2.1, ?_⟩
   rw [s.val c this.1]; split <;> omega
  ·have h3 := (e2 c).1 hc
   have h4 := hl c h3.1
   refine ⟨h4.1, h4.2, ?_⟩
   rw [s.val c h4.1, if_pos ⟨h3.2, h3.1⟩]; omega
 ·have := r.top c h0 h1
  rw [s.val c h0]; split <;> omega
 ·have := s.size
  have h2 := r.size
  simp only [List.length_cons] at h2
  omega
theorem Round.skip {n fuel : Nat} {out t : List Int} {x : Int} (r : Round n (fuel + 1) out (x :: t)) : Round n fuel out t := by
 refine ⟨r.len, fun c hc => r.mem c (by simp [hc]), fun c h0 h1 => ?_, ?_⟩
 ·have := r.top c h0 h1; omega
 ·have h2 := r.size
  simp only [List.length_cons] at h2
  omega
theorem round_start {n : Nat} {dst : Int} (hn : n ≤ 100) (h0 : 0 ≤ dst) (h1 : dst < n) : Round n (n + 2) ((List.replicate n (-1 : Int)).set dst.toNat 0) [dst] := by
 have b := bfs_start (nb := fun _ => []) (go := fun _ => true) (dst := dst) (n := n) ⟨h0, h1⟩
 refine ⟨b.len, fun c hc => ?_, fun c c0 c1 => ?_, ?_⟩
 ·have := b.mem c hc; exact ⟨this.1, this.2.1, by omega⟩
 ·have := b.top c c0 c1; omega
 ·have := negs_le ((List.replicate n (-1 : Int)).set dst.toNat 0)
  simp only [List.length_set, List.length_replicate] at this
  simp only [List.length_cons, List.length_nil]
  omega

theorem besideL_iff {w h c x : Int} : x ∈ besideL w h c ↔ (x = c - w ∧ 0 < c / w) ∨ (x = c - 1 ∧ 0 < c % w) ∨ (x = c + 1 ∧ c % w < w - 1) ∨ (x = c + w ∧ c / w < h - 1) := by
 unfold besideL
 simp only [List.mem_append]
 constructor
 ·rintro (hx | hx | hx | hx) <;> split at hx <;> simp only [List.mem_singleton, List.not_mem_nil] at hx <;> simp_all
 ·rintro (⟨rfl, hx⟩ | ⟨rfl, hx⟩ | ⟨rfl, hx⟩ | ⟨rfl, hx⟩)
  ·exact Or.inl (by rw [if_pos hx]; simp)
  ·exact Or.inr (Or.inl (by rw [if_pos hx]; simp))
  ·exact Or.inr (Or.inr (Or.inl (by rw [if_pos hx]; simp)))
  ·exact Or.inr (Or.inr (Or.inr (by rw [if_pos hx]; simp)))
theorem Fits.of_mem {w h c x : Int} (f : Fits w h c) (hx : x ∈ besideL w h c) : Fits w h x :=
 ⟨f.w1, f.w2, f.h1, f.h2, (mem_besideL f hx).1, (mem_besideL f hx).2⟩
theorem besideL_sym {w h c x : Int} (f : Fits w h c) (hx : x ∈ besideL w h c) : c ∈ besideL w h x := by
 have f' := f.of_mem hx
 obtain ⟨q1, q2, q3, q4, q5⟩ := f.quot
 have hw := f.w1
 rw [besideL_iff] at hx ⊢
 have u : ∀ q r : Int, r + w * q = x → 0 ≤ r → r < w → x / w = q ∧ x % w = r := fun q r h1 h2 h3 => (Int.ediv_emod_unique (by omega)).2 ⟨h1, h2, h3⟩
 rcases hx with ⟨e, hx⟩ | ⟨e, hx⟩ | ⟨e, hx⟩ | ⟨e, hx⟩
 ·have := u (c / w - 1) (c % w) (by rw [Int.mul_sub, Int.mul_one]; omega) q4 q5
  exact Or.inr (Or.inr (Or.inr ⟨by omega, by omega⟩))
 ·have := u (c / w) (c % w - 1) (by omega) (by omega) (by omega)
  exact Or.inr (Or.inr (Or.inl ⟨by omega, by omega⟩))
 ·have := u (c / w) (c % w + 1) (by omega) (by omega) (by omega)
  exact Or.inr (Or.inl ⟨by omega, by omega⟩)
 ·have := u (c / w + 1) (c % w) (by rw [Int.mul_add, Int.mul_one]; omega) q4 q5
  exact Or.inl ⟨by omega, by omega⟩
theorem not_mem_self {w h c : Int} (f : Fits w h c) : c ∉ besideL w h c := by
 intro hx
 rw [besideL_iff] at hx
 have := f.w1
 omega

inductive Walk (nb : Int → List Int) (go : Int → Bool) (a : Int) : Nat → Int → Prop
 | nil : Walk nb go a 0 a
 | snoc {k : Nat} {b c : Int} (w : Walk nb go a k b) (g : go b = true) (h : c ∈ nb b) : Walk nb go a (k + 1) c
theorem Walk.cons {nb : Int → List Int} {go : Int → Bool} {a b : Int} (g : go a = true) (h : b ∈ nb a) : ∀ {k : Nat} {c : Int}, Walk nb go b k c → Walk nb go a (k + 1) c
 | _, _, .nil => .snoc .nil g h
 | _, _, .snoc w g' h' => .snoc (Walk.cons g h w) g' h'
theorem Walk.trans {nb : Int → List Int} {go : Int → Bool} {k : Nat} {a b : Int} (w : Walk nb go a k b) : ∀ {j : Nat} {c : Int}, Walk nb go b j c → Walk nb go a (k + j) c
 | _, _, .nil => w
 | _, _, .snoc w' g' h' => .snoc (Walk.trans w w') g' h'
theorem Walk.mono {nb nb' : Int → List Int} {go go' : Int → Bool} (h : ∀ a b : Int, go a = true → b ∈ nb a → go' a = true ∧ b ∈ nb' a) : ∀ {k : Nat} {a c : Int}, Walk nb go a k c → Walk nb' go' a k c
 | _, _, _, .nil => .nil
 | _, _, _, .snoc w g h' => .snoc (Walk.mono h w) (h _ _ g h').1 (h _ _ g h').2
theorem Walk.stay {nb : Int → List Int} {go : Int → Bool} {P : Int → Prop} {a : Int} (ha : P a) (h : ∀ b c : Int, P b → go b = true → c ∈ nb b → P c) : ∀ {k : Nat} {c : Int}, Walk nb go a k c → P c
 | _, _, .nil => ha
 | _, _, .snoc w g h' => h _ _ (Walk.stay ha h w) g h'
def Reach (nb : Int → List Int) (go : Int → Bool) (a b : Int) : Prop := ∃ k, Walk nb go a k b
section
variable {nb : Int → List Int} {go : Int → Bool} {dst : Int} {n : Nat} {d : List Int}
theorem Bfs.walk (B : Bfs nb go dst n d) : ∀ (k : Nat) (c : Int), 0 ≤ c → c < n → rd d c = k → Walk nb go dst k c
 | 0, c, h0, h1, e => by
  have e2 : c = dst := B.only c h0 h1 e
  rw [e2]; exact .nil
 | k + 1, c, h0, h1, e => by
  obtain ⟨u, u0, u1, ug, uv, ue⟩ := B.pred c h0 h1 (by omega)
  exact .snoc (Bfs.walk B k u u0 u1 (by omega)) ug uv
theorem Bfs.least (B : Bfs nb go dst n d) (hnb : ∀ c : Int, 0 ≤ c → c < n → ∀ v ∈ nb c, 0 ≤ v ∧ v < (n : Int)) (ht : 0 ≤ dst ∧ dst < (n : Int)) {k : Nat} {c : Int} (w : Walk nb go dst k c) : 0 ≤ c ∧ c < (n : Int) ∧ 0 ≤ rd d c ∧ rd d c ≤ k := by
 induction w with
 | nil => exact ⟨ht.1, ht.2, by rw [B.zero]; omega, by rw [B.zero]; omega⟩
 | @snoc k b c w g h ih =>
  obtain ⟨i0, i1, i2, i3⟩ := ih
  have h1 := hnb _ i0 i1 _ h
  have h2 := B.next _ i0 i1 i2 g _ h
  exact ⟨h1.1, h1.2, h2.1, by omega⟩
theorem Bfs.reach (B : Bfs nb go dst n d) (hnb : ∀ c : Int, 0 ≤ c → c < n → ∀ v ∈ nb c, 0 ≤ v ∧ v < (n : Int)) (ht : 0 ≤ dst ∧ dst < (n : Int)) {c : Int} (h0 : 0 ≤ c) (h1 : c < n) : 0 ≤ rd d c ↔ Reach nb go dst c := by
 constructor
 ·intro h
  exact ⟨(rd d c).toNat, B.walk _ c h0 h1 (by omega)⟩
 ·rintro ⟨k, w⟩
  exact (B.least hnb ht w).2.2.1
theorem Bfs.below (B : Bfs nb go dst n d) (ht : 0 ≤ dst ∧ dst < (n : Int)) : ∀ c : Int, 0 ≤ c → c < n → rd d c < n := by
 have key : ∀ (k : Nat) (c : Int), 0 ≤ c → c < n → rd d c = k → ∃ f : Nat → Int, ∀ j ≤ k, 0 ≤ f j ∧ f j < n ∧ rd d (f j) = j := by
  intro k
  induction k with
  | zero => intro c h0 h1 e; exact ⟨fun _ => c, fun j hj => ⟨h0, h1, by rw [show j = 0 by omega]; exact e⟩⟩
  | succ k ih =>
   intro c h0 h1 e
   obtain ⟨u, u0, u1, ug, uv, ue⟩ := B.pred c h0 h1 (by omega)
   obtain ⟨f, hf⟩ := ih u u0 u1 (by omega)
   refine ⟨fun j => if j = k + 1 then c else f j, fun j hj => ?_⟩
   by_cases hjk : j = k + 1
   ·subst hjk; simp only [if_true]; exact ⟨h0, h1, e⟩
   ·simp only [if_neg hjk]; exact hf j (by omega)
 intro c h0 h1
 by_cases hd : rd d c < 0
 ·omega
 ·obtain ⟨f, hf⟩ := key (rd d c).toNat c h0 h1 (by omega)
  -- the map j -> f j is one dst one from 0 .. k dst n
  have hnd : ((List.range ((rd d c).toNat + 1)).map fun j => (f j).toNat).Nodup := by
   refine List.pairwise_map.2 (List.Pairwise.imp_of_mem ?_ (List.nodup_range (n := (rd d c).toNat + 1)))
   intro i j hi hj hij e
   rw [List.mem_range] at hi hj
   apply hij
   have hi' := hf i (by omega)
   have hj' := hf j (by omega)
   have : f i = f j := by omega
   rw [this] at hi'
   omega
  have hsub : ((List.range ((rd d c).toNat + 1)).map fun j => (f j).toNat) ⊆ List.range n := by
   intro x hx
   rw [List.mem_map] at hx
   obtain ⟨j, hj, rfl⟩ := hx
   rw [List.mem_range] at hj ⊢
   have := hf j (by omega)
   omega
  have := hnd.length_le_of_subset hsub
  simp only [List.length_map, List.length_range] at this
  omega
end

theorem nbF_no_wall {w h : Int} {cs : List Int} {a b : Int} (h1 : b ∈ nbF w h cs a) : rd cs b ≠ 0 := (mem_nearL.1 h1).2.1
theorem nbF_sym {w h : Int} {cs : List Int} (hf : floorOk w h cs = true) {a b : Int} (h0 : 0 ≤ a) (h1 : a < (cs.length : Int)) (hw : rd cs a ≠ 0) (hb : b ∈ nbF w h cs a) : a ∈ nbF w h cs b := by
 have f := (fitsAt hf h0 h1).1
 have m := mem_nearL.1 hb
 exact mem_nearL.2 ⟨besideL_sym f m.1, hw, fun e => by cases e⟩
theorem field_bfs {w h : Int} {cs : List Int} {dst : Int} (ld : Bool) (hf : floorOk w h cs = true) (h0 : 0 ≤ dst) (h1 : dst < (cs.length : Int)) : Bfs (nbF w h cs) (goF cs dst ld) dst cs.length (fieldL w h cs dst ld) := bfs_from (nbF_in hf) ⟨h0, h1⟩
theorem field_no_wall {w h : Int} {cs : List Int} {dst : Int} {ld : Bool} (hf : floorOk w h cs = true) (h0 : 0 ≤ dst) (h1 : dst < (cs.length : Int)) (hw : rd cs dst ≠ 0) {c : Int} (c0 : 0 ≤ c) (c1 : c < (cs.length : Int)) (hd : 0 ≤ rd (fieldL w h cs dst ld) c) : rd cs c ≠ 0 := by
 have B := field_bfs ld hf h0 h1
 by_cases e : rd (fieldL w h cs dst ld) c = 0
 ·rw [B.only c c0 c1 e]; exact hw
 ·obtain ⟨u, u0, u1, ug, uv, ud⟩ := B.pred c c0 c1 (by omega)
  exact nbF_no_wall uv
theorem spec_field_inner (w h : Int) (cs : List Int) (dst : Int) (ld : Bool) (bs : List Int) (x v : Int) (i : Nat) (R : List Int) (hb : bs.length ≤ 4) (hv1 : 1 ≤ v) (hv2 : v ≤ 1000) (hi : i ≤ 1000) : ∀ (d j : Nat) (out q : List Int), j + d = bs.length → (∀ c ∈ bs, 0 ≤ c ∧ c < (out.length : Int)) → 0 ≤ x → x < (out.length : Int) → rd out x = v - 1 → q.length + d ≤ 10000 →
  Ev (fun k => spec_l2Field.l1 k dst ld (relax v out q (bs.drop j)).1 (relax v out q (bs.drop j)).2 ((i + 1 : Nat) : Int) w h cs) R → Ev (fun k => spec_l2Field.l2 k dst ld out q i x bs j w h cs) R
 | 0, j, out, q, e, hc, x0, x1, xv, ht, hR => Ev.unroll (by
   simp (disch := omega) only [spec_l2Field.l2, ↓if_pos, ↓if_neg, if_pos, if_neg, decide_eq_true_eq, ↓reduceIte, ↓wrap_sc, wrap_id, some_bind, Int.toNat_natCast, rd_nat', getD_zero', Bool.not_true, Bool.not_false, Bool.false_eq_true, decide_true, decide_false]
   rw [drop_end (by omega)] at hR
   exact hR)
 | d + 1, j, out, q, e, hc, x0, x1, xv, ht, hR => Ev.unroll (by
   have hj : j < bs.length := by omega
   have hcj := hc (bs.getD j 0) (by rw [getD_at hj]; exact List.getElem_mem hj)
   rw [drop_cons hj, show bs[j] = bs.getD j 0 from (getD_at hj).symm] at hR
   simp (disch := omega) only [spec_l2Field.l2, ↓if_pos, ↓if_neg, if_pos, if_neg, decide_eq_true_eq, ↓reduceIte, ↓wrap_sc, wrap_id, some_bind, Int.toNat_natCast, rd_nat', getD_zero', Bool.not_true, Bool.not_false, Bool.false_eq_true, decide_true, decide_false]
   by_cases h1 : rd out (bs.getD j 0) < 0
   ·unfold relax at hR
    rw [if_pos h1] at hR
    simp (disch := omega) only [xv, ↓if_pos, ↓if_neg, if_pos, if_neg, decide_eq_true_eq, ↓reduceIte, ↓wrap_sc, wrap_id, some_bind, Int.toNat_natCast, rd_nat', getD_zero', Bool.not_true, Bool.not_false, Bool.false_eq_true, decide_true, decide_false]
    rw [show v - 1 + 1 = v by omega]
    refine spec_field_inner w h cs dst ld bs x v i R hb hv1 hv2 hi d (j + 1) _ _ (by omega) (fun c h3 => by rw [List.length_set]; exact hc c h3) x0 (by rw [List.length_set]; exact x1) ?_ (by simp; omega) hR
    rw [rd_set hcj.1 hcj.2 x0, if_neg (fun e => by rw [e] at xv; omega), xv]
   ·unfold relax at hR
    rw [if_neg h1] at hR
    simp (disch := omega) only [↓if_pos, ↓if_neg, if_pos, if_neg, decide_eq_true_eq, ↓reduceIte, ↓wrap_sc, wrap_id, some_bind, Int.toNat_natCast, rd_nat', getD_zero', Bool.not_true, Bool.not_false, Bool.false_eq_true, decide_true, decide_false]
    exact spec_field_inner w h cs dst ld bs x v i R hb hv1 hv2 hi d (j + 1) _ _ (by omega) hc x0 x1 xv (by omega) hR)
theorem spec_field_l1 (w h : Int) (cs : List Int) (dst : Int) (ld : Bool) (hf : floorOk w h cs = true) : ∀ (fuel i : Nat) (out q : List Int), i + fuel ≤ 102 → i ≤ q.length → Round cs.length fuel out (q.drop i) → Ev (fun k => spec_l2Field.l1 k dst ld out q i w h cs) (bfs (nbF w h cs) (goF cs dst ld) fuel out (q.drop i))
 | 0, _, _, _, _, _, r => absurd r.size (by omega)
 | fuel + 1, i, out, q, hk, hq, r => Ev.unroll (by
   have hs := r.size
   rw [List.length_drop] at hs
   by_cases hi : i < q.length
   ·rw [drop_cons hi] at r ⊢
    have ex : rd q (i : Int) = q[i] := rd_nat hi
    generalize q[i] = x at r ex ⊢
    obtain ⟨x0, x1, xv⟩ := r.mem x (by simp)
    have hl := r.len
    have xt := r.top x x0 x1
    have hfit := fitsAt hf x0 x1
    simp only [spec_l2Field.l1, ex]
    simp (disch := omega) only [↓if_pos, ↓if_neg, if_pos, if_neg, decide_eq_true_eq, ↓reduceIte, ↓wrap_sc, wrap_id, some_bind, Int.toNat_natCast, rd_nat', getD_zero', Bool.not_true, Bool.not_false, Bool.false_eq_true, decide_true, decide_false]
    have yes : goF cs dst ld x = true → Ev (fun k => spec_l2Field.j2 k dst ld out q i x false w h cs) (bfs (nbF w h cs) (goF cs dst ld) (fuel + 1) out (x :: q.drop (i + 1))) := fun hg => Ev.unroll (by
     simp (disch := omega) only [spec_l2Field.j2, ↓if_pos, ↓if_neg, if_pos, if_neg, decide_eq_true_eq, ↓reduceIte, ↓wrap_sc, wrap_id, some_bind, Int.toNat_natCast, rd_nat', getD_zero', Bool.not_true, Bool.not_false, Bool.false_eq_true, decide_true, decide_false]
     refine Ev.bind (spec_l1Near_f w h cs x false hfit.1 hfit.2) ?_
     unfold bfs
     rw [if_pos hg]
     have rn := r.next (l := nbF w h cs x) (fun c hc => nbF_in hf x x0 x1 c hc)
     have ap := relax_app (rd out x + 1) (nbF w h cs x) out (q.take (i + 1)) (q.drop (i + 1))
     rw [List.take_append_drop] at ap
     have e1 : (relax (rd out x + 1) out q (nbF w h cs x)).1 = (relax (rd out x + 1) out (q.drop (i + 1)) (nbF w h cs x)).1 := by rw [ap]
     have e2 : (relax (rd out x + 1) out q (nbF w h cs x)).2.drop (i + 1) = (relax (rd out x + 1) out (q.drop (i + 1)) (nbF w h cs x)).2 := by
      rw [ap]; simp only
      rw [List.drop_append_of_le_length (by simp; omega), List.drop_of_length_le (by simp; omega), List.nil_append]
     have e3 : i + 1 ≤ (relax (rd out x + 1) out q (nbF w h cs x)).2.length := by
      rw [ap]; simp; omega
     rw [← e1, ← e2] at rn ⊢
     have ih := spec_field_l1 w h cs dst ld hf fuel (i + 1) _ _ (by omega) e3 rn
     exact spec_field_inner w h cs dst ld (nearL w h cs x false) x (rd out x + 1) i _ (nearL_le _ _ _ _ _) (by omega) (by omega) (by omega) (nearL w h cs x false).length 0 out q (by omega) (fun c hc => by rw [hl]; exact nbF_in hf x x0 x1 c hc) x0 (by omega) (by omega) (by have := nearL_le w h cs x false; omega) (by rw [List.drop_zero]; exact ih))
    have no : goF cs dst ld x = false → Ev (fun k => spec_l2Field.j2 k dst ld out q i x true w h cs) (bfs (nbF w h cs) (goF cs dst ld) (fuel + 1) out (x :: q.drop (i + 1))) := fun hg => Ev.unroll (by
     simp (disch := omega) only [spec_l2Field.j2, ↓if_pos, ↓if_neg, if_pos, if_neg, decide_eq_true_eq, ↓reduceIte, ↓wrap_sc, wrap_id, some_bind, Int.toNat_natCast, rd_nat', getD_zero', Bool.not_true, Bool.not_false, Bool.false_eq_true, decide_true, decide_false]
     unfold bfs
     rw [hg]
     exact spec_field_l1 w h cs dst ld hf fuel (i + 1) _ _ (by omega) (by omega) r.skip)
    by_cases hd : x = dst
    ·simp (disch := omega) only [hd, ↓if_pos, ↓if_neg, if_pos, if_neg, decide_eq_true_eq, ↓reduceIte, ↓wrap_sc, wrap_id, some_bind, Int.toNat_natCast, rd_nat', getD_zero', Bool.not_true, Bool.not_false, Bool.false_eq_true, decide_true, decide_false]
     rw [hd] at yes
     exact yes (by unfold goF; simp)
    ·cases ld with
     | false =>
      simp (disch := omega) only [hd, ↓if_pos, ↓if_neg, if_pos, if_neg, decide_eq_true_eq, ↓reduceIte, ↓wrap_sc, wrap_id, some_bind, Int.toNat_natCast, rd_nat', getD_zero', Bool.not_true, Bool.not_false, Bool.false_eq_true, decide_true, decide_false]
      exact yes (by unfold goF; simp)
     | true =>
      simp (disch := omega) only [hd, ↓if_pos, ↓if_neg, if_pos, if_neg, decide_eq_true_eq, ↓reduceIte, ↓wrap_sc, wrap_id, some_bind, Int.toNat_natCast, rd_nat', getD_zero', Bool.not_true, Bool.not_false, Bool.false_eq_true, decide_true, decide_false]
      by_cases h2 : rd cs x = 2
      ·rw [h2]
       exact no (by unfold goF; simp [hd, h2])
      ·rw [show (rd cs x == 2) = false by simpa using h2]
       exact yes (by unfold goF; simp [h2])
   ·rw [drop_end (by omega)]
    simp (disch := omega) only [spec_l2Field.l1, ↓if_pos, ↓if_neg, if_pos, if_neg, decide_eq_true_eq, ↓reduceIte, ↓wrap_sc, wrap_id, some_bind, Int.toNat_natCast, rd_nat', getD_zero', Bool.not_true, Bool.not_false, Bool.false_eq_true, decide_true, decide_false]
    exact Ev.now _)
theorem spec_field_l0 (w h : Int) (cs : List Int) (dst : Int) (ld : Bool) (R : List Int) (hn : cs.length ≤ 100) (h0 : 0 ≤ dst) (h1 : dst < (cs.length : Int)) (hR : Ev (fun k => spec_l2Field.l1 k dst ld ((List.replicate cs.length (-1 : Int)).set dst.toNat 0) [dst] 0 w h cs) R) :
  ∀ (d i : Nat), i + d = cs.length → Ev (fun k => spec_l2Field.l0 k dst ld (List.replicate i (-1)) i w h cs) R
 | 0, i, e => Ev.unroll (by
   obtain rfl : i = cs.length := by omega
   simp (disch := omega) only [spec_l2Field.l0, List.length_replicate, ↓if_pos, ↓if_neg, if_pos, if_neg, decide_eq_true_eq, ↓reduceIte, ↓wrap_sc, wrap_id, some_bind, Int.toNat_natCast, rd_nat', getD_zero', Bool.not_true, Bool.not_false, Bool.false_eq_true, decide_true, decide_false]
   exact hR)
 | d + 1, i, e => Ev.unroll (by
   simp (disch := omega) only [spec_l2Field.l0, List.length_replicate, ↓if_pos, ↓if_neg, if_pos, if_neg, decide_eq_true_eq, ↓reduceIte, ↓wrap_sc, wrap_id, some_bind, Int.toNat_natCast, rd_nat', getD_zero', Bool.not_true, Bool.not_false, Bool.false_eq_true, decide_true, decide_false]
   rw [← List.replicate_succ']
   exact spec_field_l0 w h cs dst ld R hn h0 h1 hR d (i + 1) (by omega))
theorem spec_l2Field_f (w h : Int) (cs : List Int) (dst : Int) (ld : Bool) (hf : floorOk w h cs = true) (h0 : 0 ≤ dst) (h1 : dst < (cs.length : Int)) : Ev (fun k => spec_l2Field.f k w h cs dst ld) (fieldL w h cs dst ld) := by
 have hn := floorOk_area hf
 unfold spec_l2Field.f fieldL bfsFrom
 exact spec_field_l0 w h cs dst ld _ hn h0 h1 (spec_field_l1 w h cs dst ld hf (cs.length + 2) 0 _ [dst] (by omega) (by simp) (round_start hn h0 h1)) cs.length 0 (by omega)

theorem impl_field_inner (w h : Int) (cs : List Int) (dst : Int) (ld : Bool) (bs : List Int) (x v : Int) (R : List Int) (hb : bs.length ≤ 4) (hv1 : 1 ≤ v) (hv2 : v ≤ 1000) : ∀ (d j : Nat) (out todo : List Int), j + d = bs.length → (∀ c ∈ bs, 0 ≤ c ∧ c < (out.length : Int)) → 0 ≤ x → x < (out.length : Int) → rd out x = v - 1 → todo.length + d ≤ 1000 →
  Ev (fun k => impl_field.l1 k dst ld (relax v out todo (bs.drop j)).1 (relax v out todo (bs.drop j)).2 w h cs) R → Ev (fun k => impl_field.l2 k dst ld out todo x bs bs.length j w h cs) R
 | 0, j, out, todo, e, hc, x0, x1, xv, ht, hR => Ev.unroll (by
   simp (disch := omega) only [impl_field.l2, ↓if_pos, ↓if_neg, if_pos, if_neg, decide_eq_true_eq, ↓reduceIte, ↓wrap_sc, wrap_id, some_bind, Int.toNat_natCast, rd_nat', getD_zero', Bool.not_true, Bool.not_false, Bool.false_eq_true, decide_true, decide_false]
   rw [drop_end (by omega)] at hR
   exact hR)
 | d + 1, j, out, todo, e, hc, x0, x1, xv, ht, hR => Ev.unroll (by
   have hj : j < bs.length := by omega
   have hcj := hc (bs.getD j 0) (by rw [getD_at hj]; exact List.getElem_mem hj)
   rw [drop_cons hj, show bs[j] = bs.getD j 0 from (getD_at hj).symm] at hR
   simp (disch := omega) only [impl_field.l2, ↓if_pos, ↓if_neg, if_pos, if_neg, decide_eq_true_eq, ↓reduceIte, ↓wrap_sc, wrap_id, some_bind, Int.toNat_natCast, rd_nat', getD_zero', Bool.not_true, Bool.not_false, Bool.false_eq_true, decide_true, decide_false]
   by_cases h1 : rd out (bs.getD j 0) < 0
   ·unfold relax at hR
    rw [if_pos h1] at hR
    simp (disch := omega) only [xv, ↓if_pos, ↓if_neg, if_pos, if_neg, decide_eq_true_eq, ↓reduceIte, ↓wrap_sc, wrap_id, some_bind, Int.toNat_natCast, rd_nat', getD_zero', Bool.not_true, Bool.not_false, Bool.false_eq_true, decide_true, decide_false]
    rw [show v - 1 + 1 = v by omega]
    refine impl_field_inner w h cs dst ld bs x v R hb hv1 hv2 d (j + 1) _ _ (by omega) (fun c h3 => by rw [List.length_set]; exact hc c h3) x0 (by rw [List.length_set]; exact x1) ?_ (by simp; omega) hR
    rw [rd_set hcj.1 hcj.2 x0, if_neg (fun e => by rw [e] at xv; omega), xv]
   ·unfold relax at hR
    rw [if_neg h1] at hR
    simp (disch := omega) only [↓if_pos, ↓if_neg, if_pos, if_neg, decide_eq_true_eq, ↓reduceIte, ↓wrap_sc, wrap_id, some_bind, Int.toNat_natCast, rd_nat', getD_zero', Bool.not_true, Bool.not_false, Bool.false_eq_true, decide_true, decide_false]
    exact impl_field_inner w h cs dst ld bs x v R hb hv1 hv2 d (j + 1) _ _ (by omega) hc x0 x1 xv (by omega) hR)
theorem impl_field_l1 (w h : Int) (cs : List Int) (dst : Int) (ld : Bool) (hf : floorOk w h cs = true) : ∀ (fuel : Nat) (out todo : List Int), fuel ≤ 102 → Round cs.length fuel out todo → Ev (fun k => impl_field.l1 k dst ld out todo w h cs) (bfs (nbF w h cs) (goF cs dst ld) fuel out todo)
 | 0, _, _, _, r => absurd r.size (by omega)
 | fuel + 1, out, [], hk, r => Ev.unroll (by
   simp (disch := omega) only [impl_field.l1, List.length_nil, ↓if_pos, ↓if_neg, if_pos, if_neg, decide_eq_true_eq, ↓reduceIte, ↓wrap_sc, wrap_id, some_bind, Int.toNat_natCast, rd_nat', getD_zero', Bool.not_true, Bool.not_false, Bool.false_eq_true, decide_true, decide_false]
   exact Ev.now _)
 | fuel + 1, out, x :: t, hk, r => Ev.unroll (by
   obtain ⟨x0, x1, xv⟩ := r.mem x (by simp)
   have hl := r.len
   have ht := r.size
   have xt := r.top x x0 x1
   simp only [List.length_cons] at ht
   have rx : rd (x :: t) 0 = x := rfl
   have hfit := fitsAt hf x0 x1
   simp only [impl_field.l1, rx, List.length_cons]
   simp (disch := omega) only [show (x :: t).drop (1 : Int).toNat = t from rfl, ↓if_pos, ↓if_neg, if_pos, if_neg, decide_eq_true_eq, ↓reduceIte, ↓wrap_sc, wrap_id, some_bind, Int.toNat_natCast, rd_nat', getD_zero', Bool.not_true, Bool.not_false, Bool.false_eq_true, decide_true, decide_false]
   have yes : goF cs dst ld x = true → Ev (fun k => impl_field.j2 k dst ld out t x false w h cs) (bfs (nbF w h cs) (goF cs dst ld) (fuel + 1) out (x :: t)) := fun hg => Ev.unroll (by
    simp (disch := omega) only [impl_field.j2, ↓if_pos, ↓if_neg, if_pos, if_neg, decide_eq_true_eq, ↓reduceIte, ↓wrap_sc, wrap_id, some_bind, Int.toNat_natCast, rd_nat', getD_zero', Bool.not_true, Bool.not_false, Bool.false_eq_true, decide_true, decide_false]
    refine Ev.bind (impl_near_f w h cs x false hfit.1 hfit.2) ?_
    unfold bfs
    rw [if_pos hg]
    have ih := impl_field_l1 w h cs dst ld hf fuel _ _ (by omega) (r.next (l := nbF w h cs x) (fun c hc => nbF_in hf x x0 x1 c hc))
    exact impl_field_inner w h cs dst ld (nearL w h cs x false) x (rd out x + 1) _ (nearL_le _ _ _ _ _) (by omega) (by omega) (nearL w h cs x false).length 0 out t (by omega) (fun c hc => by rw [hl]; exact nbF_in hf x x0 x1 c hc) x0 (by omega) (by omega) (by have := nearL_le w h cs x false; omega) (by rw [List.drop_zero]; exact ih))
   have no : goF cs dst ld x = false → Ev (fun k => impl_field.j2 k dst ld out t x true w h cs) (bfs (nbF w h cs) (goF cs dst ld) (fuel + 1) out (x :: t)) := fun hg => Ev.unroll (by
    simp (disch := omega) only [impl_field.j2, ↓if_pos, ↓if_neg, if_pos, if_neg, decide_eq_true_eq, ↓reduceIte, ↓wrap_sc, wrap_id, some_bind, Int.toNat_natCast, rd_nat', getD_zero', Bool.not_true, Bool.not_false, Bool.false_eq_true, decide_true, decide_false]
    unfold bfs
    rw [hg]
    exact impl_field_l1 w h cs dst ld hf fuel _ _ (by omega) r.skip)
   cases ld with
   | false =>
    simp (disch := omega) only [↓if_pos, ↓if_neg, if_pos, if_neg, decide_eq_true_eq, ↓reduceIte, ↓wrap_sc, wrap_id, some_bind, Int.toNat_natCast, rd_nat', getD_zero', Bool.not_true, Bool.not_false, Bool.false_eq_true, decide_true, decide_false]
    exact yes (by unfold goF; simp)
   | true =>
    simp (disch := omega) only [↓if_pos, ↓if_neg, if_pos, if_neg, decide_eq_true_eq, ↓reduceIte, ↓wrap_sc, wrap_id, some_bind, Int.toNat_natCast, rd_nat', getD_zero', Bool.not_true, Bool.not_false, Bool.false_eq_true, decide_true, decide_false]
    by_cases hd : x = dst
    ·simp (disch := omega) only [hd, ↓if_pos, ↓if_neg, if_pos, if_neg, decide_eq_true_eq, ↓reduceIte, ↓wrap_sc, wrap_id, some_bind, Int.toNat_natCast, rd_nat', getD_zero', Bool.not_true, Bool.not_false, Bool.false_eq_true, decide_true, decide_false]
     rw [hd] at yes
     exact yes (by unfold goF; simp)
    ·simp (disch := omega) only [hd, ↓if_pos, ↓if_neg, if_pos, if_neg, decide_eq_true_eq, ↓reduceIte, ↓wrap_sc, wrap_id, some_bind, Int.toNat_natCast, rd_nat', getD_zero', Bool.not_true, Bool.not_false, Bool.false_eq_true, decide_true, decide_false]
     by_cases h2 : rd cs x = 2
     ·rw [h2]
      exact no (by unfold goF; simp [hd, h2])
     ·rw [show (rd cs x == 2) = false by simpa using h2]
      exact yes (by unfold goF; simp [h2]))
theorem impl_field_l0 (w h : Int) (cs : List Int) (dst : Int) (ld : Bool) (R : List Int) (hn : cs.length ≤ 100) (h0 : 0 ≤ dst) (h1 : dst < (cs.length : Int)) (hR : Ev (fun k => impl_field.l1 k dst ld ((List.replicate cs.length (-1 : Int)).set dst.toNat 0) [dst] w h cs) R) :
  ∀ (d i : Nat), i + d = cs.length → Ev (fun k => impl_field.l0 k dst ld (List.replicate i (-1) ++ List.replicate d 0) cs.length i w h cs) R
 | 0, i, e => Ev.unroll (by
   obtain rfl : i = cs.length := by omega
   simp (disch := omega) only [impl_field.l0, List.replicate_zero, List.append_nil, List.length_replicate, ↓if_pos, ↓if_neg, if_pos, if_neg, decide_eq_true_eq, ↓reduceIte, ↓wrap_sc, wrap_id, some_bind, Int.toNat_natCast, rd_nat', getD_zero', Bool.not_true, Bool.not_false, Bool.false_eq_true, decide_true, decide_false]
   exact hR)
 | d + 1, i, e => Ev.unroll (by
   simp (disch := omega) only [impl_field.l0, List.length_append, List.length_replicate, ↓if_pos, ↓if_neg, if_pos, if_neg, decide_eq_true_eq, ↓reduceIte, ↓wrap_sc, wrap_id, some_bind, Int.toNat_natCast, rd_nat', getD_zero', Bool.not_true, Bool.not_false, Bool.false_eq_true, decide_true, decide_false]
   rw [fill_step (List.replicate i (-1)) (List.replicate (d + 1) 0) (-1) (by simp) (by simp)]
   rw [← List.replicate_succ', show (List.replicate (d + 1) (0 : Int)).drop 1 = List.replicate d 0 from rfl]
   exact impl_field_l0 w h cs dst ld R hn h0 h1 hR d (i + 1) (by omega))
theorem impl_field_f (w h : Int) (cs : List Int) (dst : Int) (ld : Bool) (hf : floorOk w h cs = true) (h0 : 0 ≤ dst) (h1 : dst < (cs.length : Int)) : Ev (fun k => impl_field.f k w h cs dst ld) (fieldL w h cs dst ld) := by
 have hn := floorOk_area hf
 unfold impl_field.f fieldL bfsFrom
 simp (disch := omega) only [List.length_replicate, ↓if_pos, ↓if_neg, if_pos, if_neg, decide_eq_true_eq, ↓reduceIte, ↓wrap_sc, wrap_id, some_bind, Int.toNat_natCast, rd_nat', getD_zero', Bool.not_true, Bool.not_false, Bool.false_eq_true, decide_true, decide_false]
 exact impl_field_l0 w h cs dst ld _ hn h0 h1 (impl_field_l1 w h cs dst ld hf _ _ _ (by omega) (round_start hn h0 h1)) cs.length 0 (by omega)

def fieldOf (w h : Int) (cs : List Int) (dst : Int) (ld : Bool) : List Int := if kindAt w h cs dst = 0 then [] else fieldL w h cs dst ld
theorem fieldL_length {w h : Int} {cs : List Int} {dst : Int} {ld : Bool} (hf : floorOk w h cs = true) (h0 : 0 ≤ dst) (h1 : dst < (cs.length : Int)) : (fieldL w h cs dst ld).length = cs.length :=
 (bfs_from (go := goF cs dst ld) (nbF_in hf) ⟨h0, h1⟩).len
theorem impl_hasInt_l0 (xs : List Int) (x : Int) (hn : xs.length ≤ BIG) : ∀ (d i : Nat), i + d = xs.length → Ev (fun k => impl_hasInt.l0 k x xs xs.length i) ((xs.drop i).contains x)
 | 0, i, h => Ev.unroll (by
   simp only [impl_hasInt.l0]
   simp only [if_neg (show ¬ (i : Int) < xs.length by omega)]
   exact Ev.fin (by rw [drop_end (by omega)]; rfl))
 | d + 1, i, h => Ev.unroll (by
   have hi : i < xs.length := by omega
   simp only [impl_hasInt.l0]
   simp only [if_pos (show (i : Int) < xs.length by omega), if_pos (show (0 : Int) ≤ i by omega), wrap_succ hi hn, rd_nat hi]
   rw [drop_cons hi, List.contains_cons]
   by_cases h1 : xs[i] = x
   ·simp only [if_pos h1]
    exact Ev.fin (by rw [h1]; simp)
   ·simp only [if_neg h1]
    rw [show (x == xs[i]) = false by simpa using fun e => h1 e.symm, Bool.false_or]
    exact impl_hasInt_l0 xs x hn d (i + 1) (by omega))
theorem impl_hasInt_f (xs : List Int) (x : Int) (hn : xs.length ≤ BIG) : Ev (fun k => impl_hasInt.f k xs x) (xs.contains x) := impl_hasInt_l0 xs x hn xs.length 0 (by omega)

theorem beside_nodup {w h c : Int} (f : Fits w h c) : (besideL w h c).Nodup := by
 obtain ⟨q1, q2, q3, q4, q5⟩ := f.quot
 have hw := f.w1
 unfold besideL
 split <;> split <;> split <;> split <;> simp only [List.append_nil, List.nil_append, List.cons_append, List.nodup_cons, List.mem_cons, List.not_mem_nil, or_false, not_or, List.nodup_nil, and_true, not_false_eq_true, true_and] <;> omega
theorem beside_self {w h c : Int} (f : Fits w h c) : c ∉ besideL w h c := by
 have hw := f.w1
 unfold besideL
 split <;> split <;> split <;> split <;> simp only [List.append_nil, List.nil_append, List.cons_append, List.mem_cons, List.not_mem_nil, or_false, not_or, not_false_eq_true] <;> omega
def farOf (w h : Int) (cs : List Int) (at_ goal : Int) (ld : Bool) : List Int := if 0 ≤ goal then fieldL w h cs goal ld else (List.replicate cs.length 1).set at_.toNat 0
def outOf (w h : Int) (cs : List Int) (at_ goal : Int) (ld : Bool) : List Int :=
 if 0 ≤ goal ∧ (nearL w h cs at_ ld ++ [at_]).contains goal = false ∧ (besideL w h at_).contains goal = true then (nearL w h cs at_ ld ++ [at_]) ++ [goal] else nearL w h cs at_ ld ++ [at_]
def chL (w h : Int) (cs : List Int) (r : S37) : List Int := sortF (farLt (farOf w h cs r.f1 r.f2 r.f3) (cs.length : Int) r.f1) (outOf w h cs r.f1 r.f2 r.f3)
def standB (cs : List Int) (r : S37) : Bool := cellB cs r.f1 && (decide (r.f2 = -1) || cellB cs r.f2)
def choicesOf (w h : Int) (cs : List Int) (r : S37) : List Int := if (floorOk w h cs && standB cs r) = true then chL w h cs r else []
theorem farLt_iff (far : List Int) (n a x y : Int) : farLt far n a x y = true ↔ farKey far n x < farKey far n y ∨ (farKey far n x = farKey far n y ∧ ((x ≠ a ∧ y = a) ∨ ((x = a ∧ y = a ∨ x ≠ a ∧ y ≠ a) ∧ x < y))) := by
 unfold farLt
 generalize farKey far n x = kx
 generalize farKey far n y = ky
 by_cases e : kx = ky
 ·rw [if_pos e]
  by_cases hx : x = a
  ·by_cases hy : y = a
   ·rw [if_pos (by simp [hx, hy]), decide_eq_true_eq]; omega
   ·rw [if_neg (by simp [hx, hy]), beq_iff_eq]; omega
  ·by_cases hy : y = a
   ·rw [if_neg (by simp [hx, hy]), beq_iff_eq]; omega
   ·rw [if_pos (by rw [beq_eq_false_iff_ne.2 hx, beq_eq_false_iff_ne.2 hy]), decide_eq_true_eq]; omega
 ·rw [if_neg e, decide_eq_true_eq]; omega
theorem farLt_no (far : List Int) (n a x y : Int) : farLt far n a x y = false ↔ ¬ (farKey far n x < farKey far n y ∨ (farKey far n x = farKey far n y ∧ ((x ≠ a ∧ y = a) ∨ ((x = a ∧ y = a ∨ x ≠ a ∧ y ≠ a) ∧ x < y)))) := by
 rw [← farLt_iff, Bool.not_eq_true]
theorem farLt_as (far : List Int) (n a : Int) (x y : Int) : farLt far n a x y = true → farLt far n a y x = false := by
 rw [farLt_iff, farLt_no]; omega
theorem farLt_nt (far : List Int) (n a : Int) (x y z : Int) : farLt far n a x y = false → farLt far n a y z = false → farLt far n a x z = false := by
 rw [farLt_no, farLt_no, farLt_no]; omega
theorem near_nodup {w h c : Int} {cs : List Int} {ld : Bool} (f : Fits w h c) : (nearL w h cs c ld).Nodup := by
 unfold nearL
 exact (beside_nodup f).filter _
theorem outOf_nodup {w h : Int} {cs : List Int} {a g : Int} {ld : Bool} (f : Fits w h a) : (outOf w h cs a g ld).Nodup := by
 have h1 : (nearL w h cs a ld ++ [a]).Nodup := by
  rw [List.nodup_append]
  refine ⟨near_nodup f, by simp, fun x hx y hy e => ?_⟩
  rw [List.mem_singleton] at hy
  subst hy; subst e
  exact beside_self f (mem_nearL.1 hx).1
 unfold outOf
 split
 ·rename_i hc
  rw [List.nodup_append]
  refine ⟨h1, by simp, fun x hx y hy e => ?_⟩
  rw [List.mem_singleton] at hy
  subst hy; subst e
  have : x ∉ nearL w h cs a ld ++ [a] := by simpa using hc.2.1
  exact this hx
 ·exact h1
theorem outOf_mem {w h : Int} {cs : List Int} {a g : Int} {ld : Bool} {x : Int} : x ∈ outOf w h cs a g ld ↔ x = a ∨ (x ∈ besideL w h a ∧ ((rd cs x ≠ 0 ∧ (ld = true → rd cs x ≠ 2)) ∨ (0 ≤ g ∧ x = g))) := by
 have hn := @mem_nearL w h cs a x ld
 unfold outOf
 split
 ·rename_i hc
  rw [List.mem_append, List.mem_append, List.mem_singleton, List.mem_singleton, hn]
  have hb : g ∈ besideL w h a := by simpa using hc.2.2
  constructor
  ·rintro ((⟨h1, h2⟩ | h) | h)
   ·exact Or.inr ⟨h1, Or.inl h2⟩
   ·exact Or.inl h
   ·exact Or.inr ⟨h ▸ hb, Or.inr ⟨hc.1, h⟩⟩
  ·rintro (h | ⟨h1, h2 | h2⟩)
   ·exact Or.inl (Or.inr h)
   ·exact Or.inl (Or.inl ⟨h1, h2⟩)
   ·exact Or.inr h2.2
 ·rename_i hc
  rw [List.mem_append, List.mem_singleton, hn]
  constructor
  ·rintro (⟨h1, h2⟩ | h)
   ·exact Or.inr ⟨h1, Or.inl h2⟩
   ·exact Or.inl h
  ·rintro (h | ⟨h1, h2 | ⟨h2, h3⟩⟩)
   ·exact Or.inr h
   ·exact Or.inl ⟨h1, h2⟩
   ·subst h3
    by_cases hm : (nearL w h cs a ld ++ [a]).contains x = true
    ·have : x ∈ nearL w h cs a ld ++ [a] := by simpa using hm
     rw [List.mem_append, List.mem_singleton, hn] at this
     exact this
    ·exact absurd ⟨h2, by simpa using hm, by simpa using h1⟩ hc
theorem outOf_len {w h : Int} {cs : List Int} {a g : Int} {ld : Bool} : (outOf w h cs a g ld).length ≤ 6 := by
 have := nearL_le w h cs a ld
 unfold outOf
 split <;> simp <;> omega
theorem outOf_in {w h : Int} {cs : List Int} {a g : Int} {ld : Bool} (f : Fits w h a) (hl : (cs.length : Int) = w * h) {x : Int} (hx : x ∈ outOf w h cs a g ld) : 0 ≤ x ∧ x < (cs.length : Int) := by
 rw [outOf_mem] at hx
 rcases hx with rfl | ⟨h1, _⟩
 ·have := f.c1; have := f.c2; omega
 ·have := mem_besideL f h1; omega
theorem cellB_iff {cs : List Int} {c : Int} : cellB cs c = true ↔ (0 ≤ c ∧ c < (cs.length : Int)) ∧ rd cs c ≠ 0 := by
 unfold cellB
 rw [Bool.and_eq_true, inB_iff, Bool.not_eq_true', decide_eq_false_iff_not]
 omega
theorem standB_iff {cs : List Int} {r : S37} : standB cs r = true ↔ cellB cs r.f1 = true ∧ (r.f2 = -1 ∨ cellB cs r.f2 = true) := by
 unfold standB
 rw [Bool.and_eq_true, Bool.or_eq_true, decide_eq_true_eq]
theorem farOf_len {w h : Int} {cs : List Int} {a g : Int} {ld : Bool} (hf : floorOk w h cs = true) (hg : g = -1 ∨ cellB cs g = true) : (farOf w h cs a g ld).length = cs.length := by
 unfold farOf
 split
 ·rcases hg with h | h
  ·omega
  ·have := cellB_iff.1 h
   exact fieldL_length hf this.1.1 this.1.2
 ·simp
theorem impl_Choices_f (w h : Int) (cs : List Int) (r : S37) (hB : cs.length ≤ BIG) : Ev (fun k => impl_Choices.f k w h cs r.f0 r.f1 r.f2 r.f3 r.f4) (choicesOf w h cs r) := by
 unfold impl_Choices.f choicesOf
 refine Ev.bind (impl_FloorOk_f w h cs hB) ?_
 by_cases hf : floorOk w h cs = true
 ·rw [hf, Bool.true_and]
  refine Ev.ifp rfl (Ev.bind (impl_standsOk_f w h cs r hf) ?_)
  change Ev (fun k => if standB cs r = true then _ else _) _
  by_cases hs : standB cs r = true
  ·rw [if_pos hs]
   have hst := standB_iff.1 hs
   have hat := cellB_iff.1 hst.1
   have ha := floorOk_area hf
   obtain ⟨f, hl⟩ := fits_of hf (inB_iff.2 (show 0 ≤ r.f1 ∧ r.f1 ≤ (cs.length : Int) - 1 by omega))
   have e1 := impl_near_f w h cs r.f1 r.f3 f hl
   have n4 := nearL_le w h cs r.f1 r.f3
   refine Ev.ifp hs (Ev.ifp hat.1.1 (Ev.ifp hat.1.2 (Ev.ifp (by omega) (Ev.bind e1 (Ev.ifp (by omega) ?_)))))
   have eo : Ev (fun k => impl_Choices.o k w h cs r.f1 r.f2 (nearL w h cs r.f1 r.f3)) (outOf w h cs r.f1 r.f2 r.f3) := by
    have o1 : ∀ _ : ¬ (0 ≤ r.f2 ∧ (nearL w h cs r.f1 r.f3 ++ [r.f1]).contains r.f2 = false ∧ (besideL w h r.f1).contains r.f2 = true), nearL w h cs r.f1 r.f3 ++ [r.f1] = outOf w h cs r.f1 r.f2 r.f3 := fun hc => by unfold outOf; rw [if_neg hc]
    have o2 : ∀ _ : (0 ≤ r.f2 ∧ (nearL w h cs r.f1 r.f3 ++ [r.f1]).contains r.f2 = false ∧ (besideL w h r.f1).contains r.f2 = true), (nearL w h cs r.f1 r.f3 ++ [r.f1]) ++ [r.f2] = outOf w h cs r.f1 r.f2 r.f3 := fun hc => by unfold outOf; rw [if_pos hc]
    unfold impl_Choices.o
    by_cases hg : 0 ≤ r.f2
    ·refine Ev.ifp hg (Ev.bind (impl_hasInt_f _ r.f2 (by simp; unfold BIG; omega)) ?_)
     by_cases hc : (nearL w h cs r.f1 r.f3 ++ [r.f1]).contains r.f2 = true
     ·exact Ev.ifp hc (Ev.fin (o1 (fun e => by rw [hc] at e; cases e.2.1)))
     ·refine Ev.ifn hc (Ev.bind (impl_beside_f w h cs r.f1 f) (Ev.bind (impl_hasInt_f _ r.f2 (Nat.le_trans (besideL_le w h r.f1) (by unfold BIG; omega))) ?_))
      by_cases hb : (besideL w h r.f1).contains r.f2 = true
      ·exact Ev.ifp hb (Ev.fin (o2 ⟨hg, by simpa using hc, hb⟩))
      ·exact Ev.ifn hb (Ev.fin (o1 (fun e => hb e.2.2)))
    ·exact Ev.ifn hg (Ev.fin (o1 (fun e => hg e.1)))
   have ef : Ev (fun k => impl_Choices.far k w h cs r.f1 r.f2 r.f3) (farOf w h cs r.f1 r.f2 r.f3) := by
    unfold impl_Choices.far farOf
    by_cases hg : 0 ≤ r.f2
    ·rw [if_pos hg]
     have hgc : cellB cs r.f2 = true := by rcases hst.2 with h | h; omega; exact h
     have := cellB_iff.1 hgc
     exact Ev.ifp hg (impl_field_f w h cs r.f2 r.f3 hf this.1.1 this.1.2)
    ·rw [if_neg hg]
     exact Ev.ifn hg (Ev.now _)
   refine Ev.bind eo (Ev.bind ef (Ev.ifp (fun x hx => ?_) (Ev.fin (by unfold chL; rw [sortL_eq]))))
   rw [farOf_len hf hst.2]
   exact outOf_in f hl hx
  ·rw [if_neg hs]
   exact Ev.ifn hs (Ev.now _)
 ·rw [if_neg (by rw [Bool.and_eq_true]; exact fun e => hf e.1)]
  exact Ev.ifn hf (Ev.now _)
theorem choicesOf_len {w h : Int} {cs : List Int} {r : S37} : (choicesOf w h cs r).length ≤ 6 := by
 unfold choicesOf
 split
 ·unfold chL
  rw [(sortF_sorted (farLt_as _ _ _) (farLt_nt _ _ _) _).len]
  exact outOf_len
 ·simp

theorem rep_rd {n : Nat} {a c : Int} (h0 : 0 ≤ c) (h1 : c < (n : Int)) (a0 : 0 ≤ a) (a1 : a < (n : Int)) : rd ((List.replicate n (1 : Int)).set a.toNat 0) c = if c = a then 0 else 1 := by
 unfold rd
 rw [List.getD_eq_getElem?_getD, List.getElem?_set]
 by_cases e : c = a
 ·subst e
  rw [if_pos rfl, if_pos rfl, if_pos (by simp; omega)]; rfl
 ·rw [if_neg e, if_neg (by omega), List.getElem?_replicate, if_pos (by omega)]; rfl
def whoF (l : List S37) (next : List Int) (c : Int) : Nat → Nat → Int
 | 0, _ => -1
 | d + 1, i => if (robAt l i).f1 = c ∧ next.getD i 0 < 0 then (i : Int) else whoF l next c d (i + 1)
theorem impl_there_l0 (l : List S37) (next : List Int) (c b : Int) (hn : next.length = l.length) (h20 : l.length ≤ 20) (hb : ∀ i : Nat, (i : Int) = b → ¬ next.getD i 0 < 0) : ∀ (d i : Nat), i + d = l.length → Ev (fun k => impl_there.l0 k l next c b (i : Int)) (whoF l next c d i)
 | 0, i, e => Ev.unroll (by
   simp only [impl_there.l0, whoF]
   exact Ev.ifn (by omega) (Ev.now _))
 | d + 1, i, e => Ev.unroll (by
   have ih := impl_there_l0 l next c b hn h20 hb d (i + 1) (by omega)
   simp only [impl_there.l0, whoF, rd_rob, rd_nat', wrap_sc (show i < 9223372036854775807 by omega)]
   refine Ev.ifp (by omega) (Ev.ifp (by omega) ?_)
   by_cases h1 : (robAt l i).f1 = c
   ·refine Ev.ifp h1 ?_
    by_cases h3 : (i : Int) = b
    ·rw [if_neg (fun h => hb i h3 h.2)]; exact Ev.ifp h3 ih
    refine Ev.ifn h3 (Ev.ifp (by omega) ?_)
    by_cases h2 : next.getD i 0 < 0
    ·rw [if_pos ⟨h1, h2⟩]; exact Ev.ifp h2 (Ev.now _)
    ·rw [if_neg (fun h => h2 h.2)]; exact Ev.ifn h2 ih
   ·rw [if_neg (fun h => h1 h.1)]; exact Ev.ifn h1 ih)
theorem whoF_facts (l : List S37) (next : List Int) (c : Int) : ∀ (d i : Nat), (whoF l next c d i = -1 ∧ ∀ j, i ≤ j → j < i + d → ¬ ((robAt l j).f1 = c ∧ next.getD j 0 < 0)) ∨ (∃ j : Nat, whoF l next c d i = (j : Int) ∧ i ≤ j ∧ j < i + d ∧ (robAt l j).f1 = c ∧ next.getD j 0 < 0)
 | 0, i => Or.inl ⟨rfl, fun j h1 h2 => by omega⟩
 | d + 1, i => by
   unfold whoF
   by_cases h : (robAt l i).f1 = c ∧ next.getD i 0 < 0
   ·rw [if_pos h]; exact Or.inr ⟨i, rfl, Nat.le_refl _, by omega, h.1, h.2⟩
   ·rw [if_neg h]
    rcases whoF_facts l next c d (i + 1) with ⟨e, g⟩ | ⟨j, e, h1, h2, h3⟩
    ·refine Or.inl ⟨e, fun j h1 h2 => ?_⟩
     by_cases hj : j = i
     ·rw [hj]; exact h
     ·exact g j (by omega) (by omega)
    ·exact Or.inr ⟨j, e, by omega, by omega, h3⟩
def opN (next : List Int) : Nat := (next.filter (fun x => decide (x < 0))).length
theorem opN_set (v : Int) (hv : 0 ≤ v) : ∀ (next : List Int) (i : Nat), i < next.length → next.getD i 0 < 0 → opN (next.set i v) + 1 = opN next
 | [], i, h, _ => absurd h (by simp)
 | x :: xs, 0, _, hx => by
   have hx' : x < 0 := by simpa using hx
   unfold opN
   rw [List.set_cons_zero, List.filter_cons_of_neg (by simpa using hv), List.filter_cons_of_pos (by simpa using hx'), List.length_cons]
 | x :: xs, i + 1, h, hx => by
   have ih := opN_set v hv xs i (by simpa using h) (by simpa using hx)
   unfold opN at ih ⊢
   rw [List.set_cons_succ]
   by_cases hp : x < 0
   ·rw [List.filter_cons_of_pos (by simpa using hp), List.filter_cons_of_pos (by simpa using hp), List.length_cons, List.length_cons]; omega
   ·rw [List.filter_cons_of_neg (by simpa using hp), List.filter_cons_of_neg (by simpa using hp)]; exact ih
def tryF (rec_ : List Int → Nat → Bool × List Int) (l : List S37) (fr : Int) (i : Nat) : List Int → List Int → Bool × List Int
 | next, [] => (false, next.set i (robAt l i).f1)
 | next, v :: vs => if v ∈ next ∨ v = fr then tryF rec_ l fr i next vs else if whoF l (next.set i v) v l.length 0 < 0 then (true, next.set i v) else
   (if (rec_ (next.set i v) (whoF l (next.set i v) v l.length 0).toNat).1 = true then (true, (rec_ (next.set i v) (whoF l (next.set i v) v l.length 0).toNat).2) else tryF rec_ l fr i ((rec_ (next.set i v) (whoF l (next.set i v) v l.length 0).toNat).2.set i (-1)) vs)
def chF (l : List S37) (C : Nat → List Int) : Nat → List Int → Nat → Int → Bool × List Int
 | 0, next, _, _ => (false, next)
 | d + 1, next, i, fr => tryF (fun n2 o => chF l C d n2 o (robAt l i).f1) l fr i next (C i)
structure Left (next : List Int) (i : Nat) (n2 : List Int) : Prop where
 len : n2.length = next.length
 keep : ∀ j, j ≠ i → 0 ≤ next.getD j 0 → n2.getD j 0 = next.getD j 0
 own : 0 ≤ n2.getD i 0
theorem getD_set_self' {next : List Int} {i : Nat} {v : Int} (h : i < next.length) : (next.set i v).getD i 0 = v := by
 rw [List.getD_eq_getElem?_getD, List.getElem?_set_self h]; rfl
theorem getD_set_ne' {next : List Int} {i j : Nat} {v : Int} (h : j ≠ i) : (next.set i v).getD j 0 = next.getD j 0 := by
 rw [List.getD_eq_getElem?_getD, List.getElem?_set_ne (Ne.symm h), ← List.getD_eq_getElem?_getD]
theorem opN_le : ∀ (a b : List Int), b.length = a.length → (∀ j : Nat, 0 ≤ a.getD j 0 → 0 ≤ b.getD j 0) → opN b ≤ opN a
 | [], [], _, _ => Nat.le_refl _
 | [], _ :: _, h, _ => by simp at h
 | _ :: _, [], h, _ => by simp at h
 | x :: xs, y :: ys, h, hj => by
   have ih := opN_le xs ys (by simpa using h) (fun j h0 => by have := hj (j + 1); simpa using this (by simpa using h0))
   have h0 := hj 0
   simp at h0
   unfold opN at ih ⊢
   by_cases hx : x < 0
   ·rw [List.filter_cons_of_pos (l := xs) (by simpa using hx), List.length_cons]
    by_cases hy : y < 0
    ·rw [List.filter_cons_of_pos (by simpa using hy), List.length_cons]; omega
    ·rw [List.filter_cons_of_neg (by simpa using hy)]; omega
   ·rw [List.filter_cons_of_neg (l := xs) (by simpa using hx), List.filter_cons_of_neg (by have := h0 (by omega); simp; omega)]; exact ih
theorem opN_back {q : List Int} {i : Nat} (h : i < q.length) (h0 : 0 ≤ q.getD i 0) : opN (q.set i (-1)) = opN q + 1 := by
 have h1 := opN_set (q.getD i 0) h0 (q.set i (-1)) i (by simpa using h) (by rw [getD_set_self' h]; omega)
 rw [List.set_set] at h1
 have h2 : q.set i (q.getD i 0) = q := by rw [List.getD_eq_getElem?_getD, List.getElem?_eq_getElem h]; exact List.set_getElem_self h
 rw [h2] at h1
 exact h1.symm
theorem tryF_left (l : List S37) (fr : Int) (i d : Nat) (rec_ : List Int → Nat → Bool × List Int) (hat : 0 ≤ (robAt l i).f1) (hr : ∀ n2 o, n2.length = l.length → o < l.length → opN n2 ≤ d → n2.getD o 0 < 0 → Left n2 o (rec_ n2 o).2) : ∀ (vs next : List Int), next.length = l.length → i < l.length → (∀ v ∈ vs, 0 ≤ v) → opN next ≤ d + 1 → next.getD i 0 < 0 → Left next i (tryF rec_ l fr i next vs).2
 | [], next, hn, hi, hv, _, _ => ⟨by simp [tryF], fun j hj _ => by simp only [tryF]; rw [getD_set_ne' hj], by simp only [tryF]; rw [getD_set_self' (by omega)]; exact hat⟩
 | v :: vs, next, hn, hi, hv, ho, hneg0 => by
   have ih := tryF_left l fr i d rec_ hat hr vs
   have hos := opN_set v (hv v (by simp)) next i (by omega) hneg0
   have hv0 := hv v (by simp)
   have hvs : ∀ u ∈ vs, 0 ≤ u := fun u hu => hv u (by simp [hu])
   unfold tryF
   by_cases h1 : v ∈ next ∨ v = fr
   ·rw [if_pos h1]; exact ih next hn hi hvs ho hneg0
   rw [if_neg h1]
   have h0 : Left next i (next.set i v) := ⟨by simp, fun j hj _ => getD_set_ne' hj, by rw [getD_set_self' (by omega)]; exact hv0⟩
   by_cases h2 : whoF l (next.set i v) v l.length 0 < 0
   ·rw [if_pos h2]; exact h0
   rw [if_neg h2]
   rcases whoF_facts l (next.set i v) v l.length 0 with ⟨e, _⟩ | ⟨j, e, _, hj, _, hneg⟩
   ·omega
   rw [e, Int.toNat_natCast]
   have hl := hr (next.set i v) j (by simp; omega) (by omega) (by omega) hneg
   have hji : j ≠ i := by rintro rfl; rw [getD_set_self' (by omega)] at hneg; omega
   have hq : Left next i (rec_ (next.set i v) j).2 := ⟨by rw [hl.len]; simp, fun u hu h0' => by
    have huj : u ≠ j := by rintro rfl; rw [getD_set_ne' hu] at hneg; omega
    rw [hl.keep u huj (by rw [getD_set_ne' hu]; exact h0'), getD_set_ne' hu], by rw [hl.keep i (Ne.symm hji) (by rw [getD_set_self' (by omega)]; exact hv0), getD_set_self' (by omega)]; exact hv0⟩
   by_cases h3 : (rec_ (next.set i v) j).1 = true
   ·rw [if_pos h3]; exact hq
   ·rw [if_neg h3]
    have hle : opN (rec_ (next.set i v) j).2 ≤ opN (next.set i v) := opN_le _ _ hl.len (fun u h0' => by
     by_cases huj : u = j
     ·rw [huj]; exact hl.own
     ·rw [hl.keep u huj h0']; exact h0')
    have hbk := opN_back (q := (rec_ (next.set i v) j).2) (i := i) (by rw [hq.len]; omega) hq.own
    have h4 := ih ((rec_ (next.set i v) j).2.set i (-1)) (by rw [List.length_set, hq.len]; exact hn) hi hvs (by omega) (by rw [getD_set_self' (by rw [hq.len]; omega)]; omega)
    exact ⟨by rw [h4.len, List.length_set, hq.len], fun u hu h0' => by rw [h4.keep u hu (by rw [getD_set_ne' hu, hq.keep u hu h0']; exact h0'), getD_set_ne' hu, hq.keep u hu h0'], h4.own⟩
theorem chF_left (l : List S37) (C : Nat → List Int) (hat : ∀ i, i < l.length → 0 ≤ (robAt l i).f1) (hC : ∀ i, i < l.length → ∀ v ∈ C i, 0 ≤ v) : ∀ (d : Nat) (next : List Int) (i : Nat) (fr : Int), next.length = l.length → i < l.length → opN next ≤ d → next.getD i 0 < 0 → Left next i (chF l C d next i fr).2
 | 0, next, i, fr, hn, hi, ho, hneg => by
   have := opN_set 0 (by omega) next i (by omega) hneg
   omega
 | d + 1, next, i, fr, hn, hi, ho, hneg => by
   have ih := chF_left l C hat hC d
   exact tryF_left l fr i d _ (hat i hi) (fun n2 o h1 h2 h3 h4 => ih n2 o _ h1 h2 h3 h4) (C i) next hn hi (hC i hi) ho hneg

theorem impl_choose_l0 (w h : Int) (cs : List Int) (l : List S37) (h20 : l.length ≤ 20) (i d : Nat) (hi : i < l.length) (b fr : Int) (hb : (b < 0 ∧ fr = -1) ∨ ∃ j : Nat, b = (j : Int) ∧ j < l.length ∧ fr = (robAt l j).f1) (rec_ : List Int → Nat → Bool × List Int)
  (hr : ∀ n2 o, n2.length = l.length → o < l.length → opN n2 ≤ d → n2.getD o 0 < 0 → Ev (fun k => impl_choose.f k w h cs l n2 (o : Int) (i : Int)) (rec_ n2 o)) (hL : ∀ n2 o, n2.length = l.length → o < l.length → opN n2 ≤ d → n2.getD o 0 < 0 → Left n2 o (rec_ n2 o).2) (chs : List Int) (hcl : chs.length ≤ 6) (hv : ∀ v ∈ chs, 0 ≤ v) :
  ∀ (e j : Nat) (next : List Int), j + e = chs.length → next.length = l.length → opN next ≤ d + 1 → next.getD i 0 < 0 → Ev (fun k => impl_choose.l0 k w h cs l next (i : Int) b chs (j : Int)) (tryF rec_ l fr i next (chs.drop j))
 | 0, j, next, he, hn, ho, hneg => Ev.unroll (by
   rw [drop_end (by omega)]
   simp only [impl_choose.l0, tryF, rd_rob, Int.toNat_natCast]
   exact Ev.ifn (by omega) (Ev.ifp (by omega) (Ev.now _)))
 | e + 1, j, next, he, hn, ho, hneg => Ev.unroll (by
   have hj : j < chs.length := by omega
   have ih := impl_choose_l0 w h cs l h20 i d hi b fr hb rec_ hr hL chs hcl hv e (j + 1)
   have hv0 : 0 ≤ chs[j] := hv _ (List.getElem_mem hj)
   rw [drop_cons hj]
   simp only [impl_choose.l0, tryF, rd_nat hj, wrap_sc (show j < 9223372036854775807 by omega)]
   refine Ev.ifp (by omega) (Ev.ifp (by omega) (Ev.bind (impl_hasInt_f next chs[j] (by unfold BIG; omega)) ?_))
   by_cases hm : next.contains chs[j] = true
   ·rw [if_pos (Or.inl (by simpa using hm))]
    exact Ev.ifp hm (ih next (by omega) hn ho hneg)
   refine Ev.ifn hm ?_
   have hm' : chs[j] ∉ next := fun hx => hm (by simpa using hx)
   have main : chs[j] ≠ fr → Ev (fun k => impl_choose.j1 k w h cs l next (i : Int) b chs (j : Int)) (if chs[j] ∈ next ∨ chs[j] = fr then tryF rec_ l fr i next (chs.drop (j + 1)) else if whoF l (next.set i chs[j]) chs[j] l.length 0 < 0 then (true, next.set i chs[j]) else
     (if (rec_ (next.set i chs[j]) (whoF l (next.set i chs[j]) chs[j] l.length 0).toNat).1 = true then (true, (rec_ (next.set i chs[j]) (whoF l (next.set i chs[j]) chs[j] l.length 0).toNat).2) else tryF rec_ l fr i ((rec_ (next.set i chs[j]) (whoF l (next.set i chs[j]) chs[j] l.length 0).toNat).2.set i (-1)) (chs.drop (j + 1)))) := by
    intro hf
    rw [if_neg (fun hx => hx.elim hm' hf)]
    refine Ev.unroll ?_
    simp only [impl_choose.j1, rd_nat hj, Int.toNat_natCast, wrap_sc (show j < 9223372036854775807 by omega)]
    have hw := impl_there_l0 l (next.set i chs[j]) chs[j] (i : Int) (by simp; omega) h20 (fun u hu => by
     obtain rfl : u = i := by omega
     rw [getD_set_self' (by omega)]; omega) l.length 0 (by omega)
    refine Ev.ifp (by omega) (Ev.bind hw ?_)
    have hos := opN_set chs[j] hv0 next i (by omega) hneg
    by_cases h2 : whoF l (next.set i chs[j]) chs[j] l.length 0 < 0
    ·rw [if_pos h2]; exact Ev.ifp h2 (Ev.now _)
    rw [if_neg h2]
    rcases whoF_facts l (next.set i chs[j]) chs[j] l.length 0 with ⟨e', _⟩ | ⟨u, e', _, hu, _, hun⟩
    ·omega
    refine Ev.ifn h2 ?_
    rw [e', Int.toNat_natCast]
    refine Ev.bind (hr (next.set i chs[j]) u (by simp; omega) (by omega) (by omega) hun) ?_
    by_cases h3 : (rec_ (next.set i chs[j]) u).1 = true
    ·rw [if_pos h3]; exact Ev.ifp h3 (Ev.now _)
    rw [if_neg h3]
    refine Ev.ifn h3 ?_
    have hl := hL (next.set i chs[j]) u (by simp; omega) (by omega) (by omega) hun
    have hui : u ≠ i := by rintro rfl; rw [getD_set_self' (by omega)] at hun; omega
    have hle : opN (rec_ (next.set i chs[j]) u).2 ≤ opN (next.set i chs[j]) := opN_le _ _ hl.len (fun z h0' => by
     by_cases hz : z = u
     ·rw [hz]; exact hl.own
     ·rw [hl.keep z hz h0']; exact h0')
    have hlen : (rec_ (next.set i chs[j]) u).2.length = l.length := by rw [hl.len]; simp; omega
    have hown : 0 ≤ (rec_ (next.set i chs[j]) u).2.getD i 0 := by rw [hl.keep i (Ne.symm hui) (by rw [getD_set_self' (by omega)]; exact hv0), getD_set_self' (by omega)]; exact hv0
    have hbk := opN_back (q := (rec_ (next.set i chs[j]) u).2) (i := i) (by omega) hown
    exact ih _ (by omega) (by simp; omega) (by omega) (by rw [getD_set_self' (by omega)]; omega)
   rcases hb with ⟨hb0, hf⟩ | ⟨jb, hjb, hjl, hf⟩
   ·exact Ev.ifn (by omega) (main (by omega))
   ·refine Ev.ifp (by omega) (Ev.ifp (by omega) ?_)
    rw [hjb]
    simp only [rd_rob]
    by_cases hx : chs[j] = (robAt l jb).f1
    ·rw [if_pos (Or.inr (by rw [hf]; exact hx))]
     exact Ev.ifp hx (by rw [← hjb]; exact ih next (by omega) hn ho hneg)
    ·exact Ev.ifn hx (by rw [← hjb]; exact main (by rw [hf]; exact hx)))
theorem impl_choose_f (w h : Int) (cs : List Int) (l : List S37) (hB : cs.length ≤ BIG) (h20 : l.length ≤ 20) (hat : ∀ i, i < l.length → 0 ≤ (robAt l i).f1) (hC : ∀ i, i < l.length → ∀ v ∈ choicesOf w h cs (robAt l i), 0 ≤ v) : ∀ (d : Nat) (next : List Int) (i : Nat) (b fr : Int), next.length = l.length → i < l.length → opN next ≤ d → next.getD i 0 < 0 → ((b < 0 ∧ fr = -1) ∨ ∃ j : Nat, b = (j : Int) ∧ j < l.length ∧ fr = (robAt l j).f1) →
  Ev (fun k => impl_choose.f k w h cs l next (i : Int) b) (chF l (fun i => choicesOf w h cs (robAt l i)) d next i fr)
 | 0, next, i, b, fr, hn, hi, ho, hneg, hb => by
   have := opN_set 0 (by omega) next i (by omega) hneg
   omega
 | d + 1, next, i, b, fr, hn, hi, ho, hneg, hb => Ev.unroll (by
   have hc := choicesOf_len (w := w) (h := h) (cs := cs) (r := robAt l i)
   simp only [impl_choose.f, rd_rob, chF]
   refine Ev.ifp (by omega) (Ev.ifp (by omega) (Ev.bind (impl_Choices_f w h cs (robAt l i) hB) (Ev.ifp (by omega) ?_)))
   have := impl_choose_l0 w h cs l h20 i d hi b fr hb (fun n2 o => chF l (fun i => choicesOf w h cs (robAt l i)) d n2 o (robAt l i).f1) (fun n2 o h1 h2 h3 h4 => impl_choose_f w h cs l hB h20 hat hC d n2 o (i : Int) (robAt l i).f1 h1 h2 h3 h4 (Or.inr ⟨i, rfl, hi, rfl⟩)) (fun n2 o h1 h2 h3 h4 => chF_left l _ hat hC d n2 o _ h1 h2 h3 h4) (choicesOf w h cs (robAt l i)) hc (hC i hi) (choicesOf w h cs (robAt l i)).length 0 next (by omega) hn ho hneg
   rw [List.drop_zero] at this
   exact this)

def stepF (l : List S37) (C : Nat → List Int) : List Int → List Int → List Int
 | [], nx => nx
 | t :: ts, nx => if nx.getD t.toNat 0 < 0 then stepF l C ts (chF l C l.length nx t.toNat (-1)).2 else stepF l C ts nx
def stepOf (w h : Int) (cs : List Int) (l : List S37) : List Int := stepF l (fun i => choicesOf w h cs (robAt l i)) (turnsOf l) (List.replicate l.length (-1))
theorem opN_len (nx : List Int) : opN nx ≤ nx.length := List.length_filter_le _ _
theorem impl_Step_l0 (w h : Int) (cs : List Int) (l : List S37) (hB : cs.length ≤ BIG) (h20 : l.length ≤ 20) (hat : ∀ i, i < l.length → 0 ≤ (robAt l i).f1) (hC : ∀ i, i < l.length → ∀ v ∈ choicesOf w h cs (robAt l i), 0 ≤ v) (ts : List Int) (ht : ts.length ≤ 20) (hts : ∀ t ∈ ts, 0 ≤ t ∧ t < (l.length : Int)) : ∀ (e j : Nat) (nx : List Int), j + e = ts.length → nx.length = l.length →
  Ev (fun k => impl_Step.l0 k w h cs l ts nx (j : Int)) (stepF l (fun i => choicesOf w h cs (robAt l i)) (ts.drop j) nx)
 | 0, j, nx, he, hn => Ev.unroll (by
   rw [drop_end (by omega)]
   simp only [impl_Step.l0, stepF]
   exact Ev.ifn (by omega) (Ev.now _))
 | e + 1, j, nx, he, hn => Ev.unroll (by
   have hj : j < ts.length := by omega
   have ih := impl_Step_l0 w h cs l hB h20 hat hC ts ht hts e (j + 1)
   obtain ⟨t0, t1⟩ := hts _ (List.getElem_mem hj)
   obtain ⟨t, et⟩ : ∃ t : Nat, ts[j] = (t : Int) := ⟨ts[j].toNat, by omega⟩
   rw [drop_cons hj]
   simp only [impl_Step.l0, stepF, rd_nat hj, et, rd_nat', Int.toNat_natCast, wrap_sc (show j < 9223372036854775807 by omega)]
   refine Ev.ifp (by omega) (Ev.ifp (by omega) (Ev.ifp (by omega) (Ev.ifp (by omega) ?_)))
   by_cases hneg : nx.getD t 0 < 0
   ·rw [if_pos hneg]
    have hl := chF_left l (fun i => choicesOf w h cs (robAt l i)) hat hC l.length nx t (-1) hn (by omega) (by have := opN_len nx; omega) hneg
    exact Ev.ifp hneg (Ev.bind (impl_choose_f w h cs l hB h20 hat hC l.length nx t (-1) (-1) hn (by omega) (by have := opN_len nx; omega) hneg (Or.inl ⟨by omega, rfl⟩)) (ih _ (by omega) (by rw [hl.len]; exact hn)))
   ·rw [if_neg hneg]; exact Ev.ifn hneg (ih nx (by omega) hn))
structure RobF (w h : Int) (cs : List Int) (r : S37) : Prop where
 at0 : 0 ≤ r.f1
 stand : standB cs r = true
 ch0 : ∀ v ∈ choicesOf w h cs r, 0 ≤ v ∧ v < (cs.length : Int)
 nd : (choicesOf w h cs r).Nodup
 eq : choicesOf w h cs r = chL w h cs r
theorem crew_rob {w h : Int} {cs : List Int} {l : List S37} (hc : crewOk w h cs l = true) : floorOk w h cs = true ∧ l.length ≤ 20 ∧ ∀ i, i < l.length → RobF w h cs (robAt l i) := by
 unfold crewOk at hc
 rw [Bool.and_eq_true, Bool.and_eq_true, decide_eq_true_eq] at hc
 obtain ⟨hf, h20, ha⟩ := hc
 refine ⟨hf, h20, fun i hi => ?_⟩
 have h1 := allFrom_iff.1 ha i (Nat.zero_le _) hi
 unfold robotAtOk robotOk at h1
 simp only [Bool.and_eq_true] at h1
 obtain ⟨⟨_, h2, h3, _⟩, _⟩ := h1
 have hs : standB cs (robAt l i) = true := by unfold standB; rw [h2, h3]; rfl
 have hcell := (cellB_iff.1 h2).1
 obtain ⟨f, hl⟩ := fits_of hf (inB_iff.2 (show 0 ≤ (robAt l i).f1 ∧ (robAt l i).f1 ≤ (cs.length : Int) - 1 by omega))
 have he : choicesOf w h cs (robAt l i) = chL w h cs (robAt l i) := by unfold choicesOf; rw [if_pos (by rw [hf, hs]; rfl)]
 have hso := sortF_sorted (farLt_as (farOf w h cs (robAt l i).f1 (robAt l i).f2 (robAt l i).f3) (cs.length : Int) (robAt l i).f1) (farLt_nt _ _ _) (outOf w h cs (robAt l i).f1 (robAt l i).f2 (robAt l i).f3)
 refine ⟨hcell.1, hs, fun v hv => ?_, ?_, he⟩
 ·rw [he] at hv
  exact outOf_in f hl ((hso.mem _).1 hv)
 ·rw [he]
  exact hso.nodup (outOf_nodup f)
theorem turnsOf_in {l : List S37} : ∀ t ∈ turnsOf l, 0 ≤ t ∧ t < (l.length : Int) := fun t ht => upto_mem'.1 (((turns_sorted l).mem t).1 ht)
theorem turnsOf_len {l : List S37} : (turnsOf l).length = l.length := by rw [(turns_sorted l).len, upto_len']
theorem impl_Step_f (w h : Int) (cs : List Int) (l : List S37) (hB : cs.length ≤ BIG) : Ev (fun k => impl_Step.f k w h cs l) (if crewOk w h cs l = true then stepOf w h cs l else []) := by
 unfold impl_Step.f
 refine Ev.bind (impl_CrewOk_f w h cs l hB) ?_
 by_cases hc : crewOk w h cs l = true
 ·obtain ⟨hf, h20, hr⟩ := crew_rob hc
  rw [if_pos hc]
  refine Ev.ifp hc (Ev.ifp h20 (Ev.bind (Ev.const (impl_Turns_f l h20)) (Ev.ifp (by rw [turnsOf_len]; exact h20) ?_)))
  have := impl_Step_l0 w h cs l hB h20 (fun i hi => (hr i hi).at0) (fun i hi v hv => ((hr i hi).ch0 v hv).1) (turnsOf l) (by rw [turnsOf_len]; exact h20) turnsOf_in (turnsOf l).length 0 (List.replicate l.length (-1)) (by omega) (by simp)
  rw [List.drop_zero] at this
  exact this
 ·rw [if_neg hc]
  exact Ev.ifn hc (Ev.now _)
theorem stepF_len (l : List S37) (C : Nat → List Int) (hat : ∀ i, i < l.length → 0 ≤ (robAt l i).f1) (hC : ∀ i, i < l.length → ∀ v ∈ C i, 0 ≤ v) : ∀ (ts nx : List Int), (∀ t ∈ ts, 0 ≤ t ∧ t < (l.length : Int)) → nx.length = l.length → (stepF l C ts nx).length = l.length
 | [], nx, _, hn => hn
 | t :: ts, nx, ht, hn => by
   have h1 := ht t (by simp)
   have ih := stepF_len l C hat hC ts
   unfold stepF
   by_cases hneg : nx.getD t.toNat 0 < 0
   ·rw [if_pos hneg]
    exact ih _ (fun u hu => ht u (by simp [hu])) (by rw [(chF_left l C hat hC l.length nx t.toNat (-1) hn (by omega) (by have := opN_len nx; omega) hneg).len]; exact hn)
   ·rw [if_neg hneg]; exact ih nx (fun u hu => ht u (by simp [hu])) hn
theorem stepOf_len {w h : Int} {cs : List Int} {l : List S37} (hc : crewOk w h cs l = true) : (stepOf w h cs l).length = l.length := by
 obtain ⟨_, _, hr⟩ := crew_rob hc
 exact stepF_len l _ (fun i hi => (hr i hi).at0) (fun i hi v hv => ((hr i hi).ch0 v hv).1) _ _ turnsOf_in (by simp)

def Apt (l : List S37) : Prop := ∀ i j : Nat, i < l.length → j < l.length → (robAt l i).f1 = (robAt l j).f1 → i = j
structure Inv (l : List S37) (C : Nat → List Int) (nx : List Int) (x : Nat) : Prop where
 len : nx.length = l.length
 cho : ∀ i : Nat, i < l.length → 0 ≤ nx.getD i 0 → nx.getD i 0 ∈ C i
 dis : ∀ i j : Nat, i < l.length → j < l.length → 0 ≤ nx.getD i 0 → nx.getD i 0 = nx.getD j 0 → i = j
 swp : ∀ i j : Nat, i < l.length → j < l.length → i ≠ j → 0 ≤ nx.getD i 0 → 0 ≤ nx.getD j 0 → nx.getD i 0 = (robAt l j).f1 → nx.getD j 0 ≠ (robAt l i).f1
 opn : ∀ p : Nat, p < l.length → p ≠ x → nx.getD p 0 < 0 → ∀ j : Nat, j < l.length → nx.getD j 0 ≠ (robAt l p).f1
def Push (l : List S37) (nx : List Int) (i : Nat) (fr : Int) : Prop :=
 (fr = -1 ∧ ∀ j : Nat, j < l.length → nx.getD j 0 ≠ (robAt l i).f1) ∨ ∃ b : Nat, b < l.length ∧ b ≠ i ∧ nx.getD b 0 = (robAt l i).f1 ∧ fr = (robAt l b).f1
structure Fail (l : List S37) (C : Nat → List Int) (nx : List Int) (i : Nat) (fr : Int) (n2 : List Int) : Prop where
 new : ∀ j : Nat, j < l.length → nx.getD j 0 < 0 → n2.getD j 0 < 0 ∨ n2.getD j 0 = (robAt l j).f1
 own : n2.getD i 0 = (robAt l i).f1
 cov : ∀ j : Nat, j < l.length → nx.getD j 0 < 0 → 0 ≤ n2.getD j 0 → ∀ v ∈ C j, v ∈ n2 ∨ (j = i ∧ v = fr)
theorem mem_getD {n : List Int} {v : Int} : v ∈ n ↔ ∃ q : Nat, q < n.length ∧ n.getD q 0 = v := by
 constructor
 ·intro h
  obtain ⟨q, hq, e⟩ := List.getElem_of_mem h
  exact ⟨q, hq, by rw [getD_at hq]; exact e⟩
 ·rintro ⟨q, hq, e⟩
  rw [getD_at hq] at e
  rw [← e]; exact List.getElem_mem hq
structure Back (l : List S37) (C : Nat → List Int) (nx : List Int) (i o : Nat) (v : Int) (m : List Int) : Prop where
 hi : i < l.length
 ho : o < l.length
 ne : o ≠ i
 neg : nx.getD i 0 < 0
 nego : nx.getD o 0 < 0
 at_ : (robAt l o).f1 = v
 len : m.length = l.length
 mi : m.getD i 0 = v
 keep : ∀ j : Nat, j < l.length → 0 ≤ nx.getD j 0 → m.getD j 0 = nx.getD j 0
 fail : Fail l C (nx.set i v) o (robAt l i).f1 m
theorem Back.mk' {l : List S37} {C : Nat → List Int} {nx : List Int} {i o : Nat} {v : Int} {m : List Int} (hn : nx.length = l.length) (hi : i < l.length) (ho : o < l.length) (hneg : nx.getD i 0 < 0) (hv : 0 ≤ v) (hat : (robAt l o).f1 = v) (hno : (nx.set i v).getD o 0 < 0) (hl : Left (nx.set i v) o m) (hf : Fail l C (nx.set i v) o (robAt l i).f1 m) : Back l C nx i o v m := by
 have hne : o ≠ i := by rintro rfl; rw [getD_set_self' (by omega)] at hno; omega
 rw [getD_set_ne' hne] at hno
 refine ⟨hi, ho, hne, hneg, hno, hat, by rw [hl.len]; simp [hn], by rw [hl.keep i (Ne.symm hne) (by rw [getD_set_self' (by omega)]; exact hv), getD_set_self' (by omega)], fun j hj h0 => ?_, hf⟩
 have hji : j ≠ i := by rintro rfl; omega
 have hjo : j ≠ o := by rintro rfl; omega
 rw [hl.keep j hjo (by rw [getD_set_ne' hji]; exact h0), getD_set_ne' hji]
section
variable {l : List S37} {C : Nat → List Int} {nx m : List Int} {i o : Nat} {v : Int}
theorem Back.val (B : Back l C nx i o v m) {q : Nat} (hq : q < l.length) (hqi : q ≠ i) : (0 ≤ nx.getD q 0 ∧ (m.set i (-1)).getD q 0 = nx.getD q 0) ∨ (nx.getD q 0 < 0 ∧ ((m.set i (-1)).getD q 0 < 0 ∨ (m.set i (-1)).getD q 0 = (robAt l q).f1)) := by
 rw [getD_set_ne' hqi]
 by_cases h0 : 0 ≤ nx.getD q 0
 ·exact Or.inl ⟨h0, B.keep q hq h0⟩
 ·exact Or.inr ⟨by omega, B.fail.new q hq (by rw [getD_set_ne' hqi]; omega)⟩
theorem Back.vi (B : Back l C nx i o v m) : (m.set i (-1)).getD i 0 = -1 := getD_set_self' (by rw [B.len]; exact B.hi)
theorem Back.inv (B : Back l C nx i o v m) (hA : Apt l) (hat : ∀ j, j < l.length → 0 ≤ (robAt l j).f1) (hown : ∀ j, j < l.length → (robAt l j).f1 ∈ C j) (I : Inv l C nx i) : Inv l C (m.set i (-1)) i := by
 have vi := B.vi
 refine ⟨by rw [List.length_set, B.len], fun q hq h0 => ?_, fun q r hq hr h0 e => ?_, fun q r hq hr hne h0 h1 e1 e2 => ?_, fun p hp hpi hn j hj e => ?_⟩
 ·have hqi : q ≠ i := by rintro rfl; omega
  rcases B.val hq hqi with ⟨h1, e⟩ | ⟨h1, h2 | h2⟩
  ·rw [e]; exact I.cho q hq h1
  ·omega
  ·rw [h2]; exact hown q hq
 ·have hqi : q ≠ i := by rintro rfl; omega
  have hri : r ≠ i := by rintro rfl; omega
  rcases B.val hq hqi with ⟨h1, e1⟩ | ⟨h1, h2 | h2⟩ <;> rcases B.val hr hri with ⟨g1, e2⟩ | ⟨g1, g2 | g2⟩
  ·exact I.dis q r hq hr h1 (by omega)
  ·omega
  ·exact absurd (by omega) (I.opn r hr hri g1 q hq)
  ·omega
  ·omega
  ·omega
  ·exact absurd (by omega) (I.opn q hq hqi h1 r hr)
  ·omega
  ·exact hA q r hq hr (by omega)
 ·have hqi : q ≠ i := by rintro rfl; omega
  have hri : r ≠ i := by rintro rfl; omega
  rcases B.val hq hqi with ⟨h3, e3⟩ | ⟨h3, h2 | h2⟩
  ·rcases B.val hr hri with ⟨g1, e4⟩ | ⟨g1, g2 | g2⟩
   ·exact I.swp q r hq hr hne h3 g1 (by omega) (by omega)
   ·omega
   ·exact hne (hA q r hq hr (by omega))
  ·omega
  ·exact hne (hA q r hq hr (by omega))
 ·have hp0 := hat p hp
  have hjp : j ≠ p := by rintro rfl; omega
  have hpn : nx.getD p 0 < 0 := by
   rcases B.val hp hpi with ⟨h1, e1⟩ | ⟨h1, _⟩
   ·omega
   ·exact h1
  by_cases hji : j = i
  ·subst hji; omega
  ·rcases B.val hj hji with ⟨h1, e1⟩ | ⟨h1, h2 | h2⟩
   ·exact I.opn p hp hpi hpn j hj (by omega)
   ·omega
   ·exact hjp (hA j p hj hp (by omega))
theorem Back.push (B : Back l C nx i o v m) (hA : Apt l) (hat : ∀ j, j < l.length → 0 ≤ (robAt l j).f1) {fr : Int} (hP : Push l nx i fr) : Push l (m.set i (-1)) i fr := by
 have vi := B.vi
 have ai := hat i B.hi
 rcases hP with ⟨h1, h2⟩ | ⟨b, hb, hbi, e, hf⟩
 ·refine Or.inl ⟨h1, fun j hj => ?_⟩
  by_cases hji : j = i
  ·subst hji; omega
  ·rcases B.val hj hji with ⟨h3, e3⟩ | ⟨h3, h4 | h4⟩
   ·have := h2 j hj; omega
   ·omega
   ·intro e; exact hji (hA j i hj B.hi (by omega))
 ·refine Or.inr ⟨b, hb, hbi, ?_, hf⟩
  rcases B.val hb hbi with ⟨h3, e3⟩ | ⟨h3, _⟩
  ·omega
  ·omega
theorem inv_take (hn : 0 ≤ v) (hi : i < l.length) (hneg : nx.getD i 0 < 0) (hvC : v ∈ C i) {fr : Int} (I : Inv l C nx i) (hP : Push l nx i fr) (hA : Apt l) (hv : v ∉ nx) (hf : v ≠ fr) (x : Nat) (hx : ∀ p : Nat, p < l.length → p ≠ x → (nx.set i v).getD p 0 < 0 → (robAt l p).f1 ≠ v) : Inv l C (nx.set i v) x := by
 have hl := I.len
 have si : (nx.set i v).getD i 0 = v := getD_set_self' (by omega)
 have sn : ∀ q : Nat, q ≠ i → (nx.set i v).getD q 0 = nx.getD q 0 := fun q h => getD_set_ne' h
 have hvn : ∀ q : Nat, q < l.length → nx.getD q 0 ≠ v := fun q hq e => hv (mem_getD.2 ⟨q, by omega, e⟩)
 refine ⟨by rw [List.length_set, hl], fun q hq h0 => ?_, fun q r hq hr h0 e => ?_, fun q r hq hr hne h0 h1 e1 e2 => ?_, fun p hp hpx hpn j hj e => ?_⟩
 ·by_cases hqi : q = i
  ·subst hqi; rw [si]; exact hvC
  ·rw [sn q hqi] at h0 ⊢; exact I.cho q hq h0
 ·by_cases hqi : q = i <;> by_cases hri : r = i
  ·omega
  ·rw [hqi, si, sn r hri] at e
   exact absurd e.symm (hvn r hr)
  ·rw [hri, si, sn q hqi] at e
   exact absurd e (hvn q hq)
  ·rw [sn q hqi] at h0 e
   rw [sn r hri] at e
   exact I.dis q r hq hr h0 e
 · -- no places are changed
  have key : ∀ r : Nat, r < l.length → r ≠ i → 0 ≤ nx.getD r 0 → v = (robAt l r).f1 → nx.getD r 0 ≠ (robAt l i).f1 := by
   intro r hr hri hr0 ev er
   rcases hP with ⟨_, h2⟩ | ⟨b, hb, hbi, e, hfb⟩
   ·exact h2 r hr er
   ·have hbr : r = b := I.dis r b hr hb hr0 (by omega)
    subst hbr
    exact hf (by omega)
  by_cases hqi : q = i
  ·subst hqi
   have hrq : r ≠ q := fun h => hne h.symm
   rw [si] at e1
   rw [sn r hrq] at e2 h1
   exact key r hr hrq h1 e1 e2
  ·by_cases hri : r = i
   ·subst hri
    rw [si] at e2
    rw [sn q hqi] at e1 h0
    exact key q hq hqi h0 e2 e1
   ·rw [sn q hqi] at h0 e1
    rw [sn r hri] at h1 e2
    exact I.swp q r hq hr hne h0 h1 e1 e2
 ·have hpv := hx p hp hpx hpn
  have hpi : p ≠ i := by rintro rfl; omega
  rw [sn p hpi] at hpn
  by_cases hji : j = i
  ·subst hji; rw [si] at e; exact hpv e.symm
  ·rw [sn j hji] at e
   exact I.opn p hp hpi hpn j hj e
end
structure RecOk (l : List S37) (C : Nat → List Int) (i d : Nat) (rec_ : List Int → Nat → Bool × List Int) : Prop where
 left : ∀ n2 o, n2.length = l.length → o < l.length → opN n2 ≤ d → n2.getD o 0 < 0 → Left n2 o (rec_ n2 o).2
 fail : ∀ n2 o, n2.length = l.length → o < l.length → opN n2 ≤ d → n2.getD o 0 < 0 → (rec_ n2 o).1 = false → Fail l C n2 o (robAt l i).f1 (rec_ n2 o).2
 well : ∀ n2 o, o < l.length → opN n2 ≤ d → n2.getD o 0 < 0 → Inv l C n2 o → Push l n2 o (robAt l i).f1 → (rec_ n2 o).1 = true → Inv l C (rec_ n2 o).2 l.length
section
variable {l : List S37} {C : Nat → List Int} {i d : Nat} {rec_ : List Int → Nat → Bool × List Int} (R : RecOk l C i d rec_) (hi : i < l.length)
include R hi
theorem rec_step {nx : List Int} {v : Int} (hv : 0 ≤ v) (hn : nx.length = l.length) (ho : opN nx ≤ d + 1) (hneg : nx.getD i 0 < 0) (hw : ¬ whoF l (nx.set i v) v l.length 0 < 0) : ∃ o : Nat, whoF l (nx.set i v) v l.length 0 = (o : Int) ∧ o < l.length ∧ (robAt l o).f1 = v ∧ (nx.set i v).getD o 0 < 0 ∧ (nx.set i v).length = l.length ∧ opN (nx.set i v) ≤ d ∧
  ((rec_ (nx.set i v) o).1 = false → Back l C nx i o v (rec_ (nx.set i v) o).2 ∧ opN ((rec_ (nx.set i v) o).2.set i (-1)) ≤ d + 1) := by
 rcases whoF_facts l (nx.set i v) v l.length 0 with ⟨e, _⟩ | ⟨o, e, _, ho1, hat1, hno⟩
 ·omega
 have hos := opN_set v hv nx i (by omega) hneg
 have hlen : (nx.set i v).length = l.length := by simp [hn]
 refine ⟨o, e, by omega, hat1, hno, hlen, by omega, fun hf => ?_⟩
 have hl := R.left (nx.set i v) o hlen (by omega) (by omega) hno
 have B := Back.mk' hn hi (by omega) hneg hv hat1 hno hl (R.fail (nx.set i v) o hlen (by omega) (by omega) hno hf)
 refine ⟨B, ?_⟩
 have hle : opN (rec_ (nx.set i v) o).2 ≤ opN (nx.set i v) := opN_le _ _ hl.len (fun u h0' => by
  by_cases huj : u = o
  ·rw [huj]; exact hl.own
  ·rw [hl.keep u huj h0']; exact h0')
 have hbk := opN_back (q := (rec_ (nx.set i v) o).2) (i := i) (by rw [B.len]; exact hi) (by rw [B.mi]; exact hv)
 omega
variable (hat : ∀ j, j < l.length → 0 ≤ (robAt l j).f1) (hpos : ∀ j, j < l.length → ∀ v ∈ C j, 0 ≤ v)
include hat hpos
theorem tryF_fail (fr : Int) : ∀ (vs nx : List Int), nx.length = l.length → (∀ v ∈ vs, 0 ≤ v) → opN nx ≤ d + 1 → nx.getD i 0 < 0 → (tryF rec_ l fr i nx vs).1 = false →
  (∀ j : Nat, j < l.length → nx.getD j 0 < 0 → (tryF rec_ l fr i nx vs).2.getD j 0 < 0 ∨ (tryF rec_ l fr i nx vs).2.getD j 0 = (robAt l j).f1) ∧ (tryF rec_ l fr i nx vs).2.getD i 0 = (robAt l i).f1 ∧
  (∀ j : Nat, j < l.length → j ≠ i → nx.getD j 0 < 0 → 0 ≤ (tryF rec_ l fr i nx vs).2.getD j 0 → ∀ v ∈ C j, v ∈ (tryF rec_ l fr i nx vs).2) ∧ (∀ v ∈ vs, v ∈ (tryF rec_ l fr i nx vs).2 ∨ v = fr) ∧
  (tryF rec_ l fr i nx vs).2.length = l.length ∧ (∀ j : Nat, j < l.length → 0 ≤ nx.getD j 0 → (tryF rec_ l fr i nx vs).2.getD j 0 = nx.getD j 0)
 | [], nx, hn, hv, ho, hneg, _ => by
   simp only [tryF]
   have si : (nx.set i (robAt l i).f1).getD i 0 = (robAt l i).f1 := getD_set_self' (by omega)
   refine ⟨fun j hj h => ?_, si, fun j hj hji h h2 => ?_, by simp, by simp [hn], fun j hj h0 => ?_⟩
   ·by_cases hji : j = i
    ·subst hji; exact Or.inr si
    ·rw [getD_set_ne' hji]; exact Or.inl h
   ·rw [getD_set_ne' hji] at h2; omega
   ·have hji : j ≠ i := by rintro rfl; omega
    rw [getD_set_ne' hji]
 | v :: vs, nx, hn, hv, ho, hneg, hb => by
   have hv0 := hv v (by simp)
   have hvs : ∀ u ∈ vs, 0 ≤ u := fun u hu => hv u (by simp [hu])
   by_cases h1 : v ∈ nx ∨ v = fr
   ·have ih := tryF_fail fr vs nx hn hvs ho hneg
    unfold tryF at hb ⊢
    rw [if_pos h1] at hb
    simp only [if_pos h1]
    obtain ⟨a1, a2, a3, a4, a5, a6⟩ := ih hb
    refine ⟨a1, a2, a3, fun u hu => ?_, a5, a6⟩
    rcases List.mem_cons.1 hu with rfl | hu
    ·rcases h1 with h1 | h1
     ·obtain ⟨q, hq, e⟩ := mem_getD.1 h1
      exact Or.inl (mem_getD.2 ⟨q, by omega, by rw [a6 q (by omega) (by omega)]; exact e⟩)
     ·exact Or.inr h1
    ·exact a4 u hu
   ·unfold tryF at hb
    rw [if_neg h1] at hb
    by_cases h2 : whoF l (nx.set i v) v l.length 0 < 0
    ·rw [if_pos h2] at hb; cases hb
    rw [if_neg h2] at hb
    obtain ⟨o, e, ho1, hat1, hno, hlen, hop, hback⟩ := rec_step R hi hv0 hn ho hneg h2
    rw [e, Int.toNat_natCast] at hb
    by_cases h3 : (rec_ (nx.set i v) o).1 = true
    ·rw [if_pos h3] at hb; cases hb
    rw [if_neg h3] at hb
    obtain ⟨B, hop2⟩ := hback (by simpa using h3)
    have ih := tryF_fail fr vs ((rec_ (nx.set i v) o).2.set i (-1)) (by rw [List.length_set, B.len]) hvs hop2 (by rw [B.vi]; omega) hb
    have et : tryF rec_ l fr i nx (v :: vs) = tryF rec_ l fr i ((rec_ (nx.set i v) o).2.set i (-1)) vs := by
     rw [tryF, if_neg h1, if_neg h2, e, Int.toNat_natCast, if_neg h3]
    rw [et]
    obtain ⟨a1, a2, a3, a4, a5, a6⟩ := ih
    have hvo : ((rec_ (nx.set i v) o).2.set i (-1)).getD o 0 = v := by rw [getD_set_ne' B.ne, B.fail.own, hat1]
    have hvm : v ∈ (tryF rec_ l fr i ((rec_ (nx.set i v) o).2.set i (-1)) vs).2 := mem_getD.2 ⟨o, by omega, by rw [a6 o ho1 (by omega)]; exact hvo⟩
    refine ⟨fun j hj h => ?_, a2, fun j hj hji h h0 u hu => ?_, fun u hu => ?_, a5, fun j hj h0 => ?_⟩
    ·by_cases hji : j = i
     ·subst hji; exact Or.inr a2
     ·rcases B.val hj hji with ⟨h4, _⟩ | ⟨_, h4 | h4⟩
      ·omega
      ·exact a1 j hj h4
      ·refine Or.inr ?_
       rw [a6 j hj (by have := hat j hj; omega)]; exact h4
    ·by_cases h4 : ((rec_ (nx.set i v) o).2.set i (-1)).getD j 0 < 0
     ·exact a3 j hj hji h4 h0 u hu
     ·rw [getD_set_ne' hji] at h4
      rcases B.fail.cov j hj (by rw [getD_set_ne' hji]; exact h) (by omega) u hu with h5 | ⟨_, h5⟩
      ·obtain ⟨q, hq, eq⟩ := mem_getD.1 h5
       by_cases hqi : q = i
       ·subst hqi
        rw [B.mi] at eq
        rw [← eq]; exact hvm
       ·by_cases hu0 : 0 ≤ u
        ·exact mem_getD.2 ⟨q, by rw [a5]; rw [B.len] at hq; exact hq, by rw [a6 q (by rw [B.len] at hq; exact hq) (by rw [getD_set_ne' hqi]; omega), getD_set_ne' hqi]; exact eq⟩
        ·exfalso
         exact hu0 (by have := hpos j hj u hu; exact this)
      ·rw [h5]
       exact mem_getD.2 ⟨i, by omega, a2⟩
    ·rcases List.mem_cons.1 hu with rfl | hu
     ·exact Or.inl hvm
     ·exact a4 u hu
    ·have hji : j ≠ i := by rintro rfl; omega
     rcases B.val hj hji with ⟨_, h4⟩ | ⟨h4, _⟩
     ·rw [a6 j hj (by omega)]; exact h4
     ·omega
variable (hA : Apt l) (hown : ∀ j, j < l.length → (robAt l j).f1 ∈ C j)
include hA hown
theorem tryF_well (fr : Int) : ∀ (vs nx : List Int), (∀ v ∈ vs, v ∈ C i) → opN nx ≤ d + 1 → nx.getD i 0 < 0 → Inv l C nx i → Push l nx i fr → (tryF rec_ l fr i nx vs).1 = true → Inv l C (tryF rec_ l fr i nx vs).2 l.length
 | [], nx, hv, ho, hneg, I, P, hb => by simp [tryF] at hb
 | v :: vs, nx, hv, ho, hneg, I, P, hb => by
   have hvC := hv v (by simp)
   have hv0 := hpos i hi v hvC
   have hvs : ∀ u ∈ vs, u ∈ C i := fun u hu => hv u (by simp [hu])
   have ih := tryF_well fr vs
   unfold tryF at hb ⊢
   by_cases h1 : v ∈ nx ∨ v = fr
   ·rw [if_pos h1] at hb
    simp only [if_pos h1]
    exact ih nx hvs ho hneg I P hb
   rw [if_neg h1] at hb
   simp only [if_neg h1]
   have hvn : v ∉ nx := fun h => h1 (Or.inl h)
   have hvf : v ≠ fr := fun h => h1 (Or.inr h)
   by_cases h2 : whoF l (nx.set i v) v l.length 0 < 0
   ·rw [if_pos h2]
    refine inv_take hv0 hi hneg hvC I P hA hvn hvf l.length (fun p hp _ hpn e => ?_)
    rcases whoF_facts l (nx.set i v) v l.length 0 with ⟨_, g⟩ | ⟨j, e', _⟩
    ·exact g p (Nat.zero_le _) (by omega) ⟨e, hpn⟩
    ·omega
   rw [if_neg h2] at hb
   rw [if_neg h2]
   obtain ⟨o, e, ho1, hat1, hno, hlen, hop, hback⟩ := rec_step R hi hv0 I.len ho hneg h2
   rw [e, Int.toNat_natCast] at hb
   rw [e, Int.toNat_natCast]
   by_cases h3 : (rec_ (nx.set i v) o).1 = true
   ·rw [if_pos h3]
    have hoi : o ≠ i := by rintro rfl; rw [getD_set_self' (by rw [I.len]; exact hi)] at hno; omega
    refine R.well (nx.set i v) o ho1 hop hno (inv_take hv0 hi hneg hvC I P hA hvn hvf o (fun p hp hpo _ e2 => hpo (hA p o hp ho1 (by omega)))) (Or.inr ⟨i, hi, Ne.symm hoi, ?_, rfl⟩) h3
    rw [getD_set_self' (by rw [I.len]; exact hi), hat1]
   ·rw [if_neg h3] at hb
    rw [if_neg h3]
    obtain ⟨B, hop2⟩ := hback (by simpa using h3)
    exact ih _ hvs hop2 (by rw [B.vi]; omega) (B.inv hA hat hown I) (B.push hA hat P) hb
theorem tryF_never : ∀ (vs nx : List Int), (∀ v ∈ vs, v ∈ C i) → (robAt l i).f1 ∈ vs → opN nx ≤ d + 1 → nx.getD i 0 < 0 → Inv l C nx i → Push l nx i (-1) → (tryF rec_ l (-1) i nx vs).1 = true
 | [], nx, hv, hm, ho, hneg, I, P => by simp at hm
 | v :: vs, nx, hv, hm, ho, hneg, I, P => by
   have hvC := hv v (by simp)
   have hv0 := hpos i hi v hvC
   have hvs : ∀ u ∈ vs, u ∈ C i := fun u hu => hv u (by simp [hu])
   have ih := tryF_never vs
   have hai := hat i hi
   have hfree : (robAt l i).f1 ∉ nx := fun h => by
    obtain ⟨q, hq, e⟩ := mem_getD.1 h
    rcases P with ⟨_, h2⟩ | ⟨b, hb, _, _, hf⟩
    ·exact h2 q (by rw [I.len] at hq; exact hq) e
    ·have := hat b hb; omega
   unfold tryF
   by_cases h1 : v ∈ nx ∨ v = -1
   ·rw [if_pos h1]
    refine ih nx hvs ?_ ho hneg I P
    rcases List.mem_cons.1 hm with h | h
    ·exfalso
     rw [h] at hfree hai
     rcases h1 with h1 | h1
     ·exact hfree h1
     ·omega
    ·exact h
   rw [if_neg h1]
   by_cases h2 : whoF l (nx.set i v) v l.length 0 < 0
   ·rw [if_pos h2]
   rw [if_neg h2]
   obtain ⟨o, e, ho1, hat1, hno, hlen, hop, hback⟩ := rec_step R hi hv0 I.len ho hneg h2
   have hoi : o ≠ i := by rintro rfl; rw [getD_set_self' (by rw [I.len]; exact hi)] at hno; omega
   rw [e, Int.toNat_natCast]
   by_cases h3 : (rec_ (nx.set i v) o).1 = true
   ·rw [if_pos h3]
   ·rw [if_neg h3]
    obtain ⟨B, hop2⟩ := hback (by simpa using h3)
    refine ih _ hvs ?_ hop2 (by rw [B.vi]; omega) (B.inv hA hat hown I) (B.push hA hat P)
    rcases List.mem_cons.1 hm with h | h
    ·exact absurd (hA o i ho1 hi (by omega)) hoi
    ·exact h
end
theorem Inv.push {l : List S37} {C : Nat → List Int} {nx : List Int} {i : Nat} (I : Inv l C nx l.length) (hi : i < l.length) (hneg : nx.getD i 0 < 0) : Inv l C nx i ∧ Push l nx i (-1) :=
 ⟨⟨I.len, I.cho, I.dis, I.swp, fun p hp _ hn j hj => I.opn p hp (by omega) hn j hj⟩, Or.inl ⟨rfl, fun j hj => I.opn i hi (by omega) hneg j hj⟩⟩
section
variable {l : List S37} {C : Nat → List Int} (hat : ∀ j, j < l.length → 0 ≤ (robAt l j).f1) (hpos : ∀ j, j < l.length → ∀ v ∈ C j, 0 ≤ v) (hA : Apt l) (hown : ∀ j, j < l.length → (robAt l j).f1 ∈ C j)
include hat hpos hA hown
theorem chF_rec : ∀ (d i : Nat), i < l.length → RecOk l C i d (fun n2 o => chF l C d n2 o (robAt l i).f1)
 | 0, i, hi => ⟨fun n2 o h1 h2 h3 h4 => chF_left l C hat hpos 0 n2 o _ h1 h2 h3 h4, fun n2 o h1 h2 h3 h4 _ => by have := opN_set 0 (by omega) n2 o (by omega) h4; omega, fun n2 o h2 h3 h4 I _ _ => by have := opN_set 0 (by omega) n2 o (by rw [I.len]; exact h2) h4; omega⟩
 | d + 1, i, hi => ⟨fun n2 o h1 h2 h3 h4 => chF_left l C hat hpos (d + 1) n2 o _ h1 h2 h3 h4, fun n2 o h1 h2 h3 h4 hb => by
   have R := chF_rec d o h2
   obtain ⟨a1, a2, a3, a4, _, _⟩ := tryF_fail R h2 hat hpos (robAt l i).f1 (C o) n2 h1 (hpos o h2) h3 h4 hb
   refine ⟨a1, a2, fun j hj h h0 v hv => ?_⟩
   by_cases hjo : j = o
   ·subst hjo
    rcases a4 v hv with h5 | h5
    ·exact Or.inl h5
    ·exact Or.inr ⟨rfl, h5⟩
   ·exact Or.inl (a3 j hj hjo h h0 v hv), fun n2 o h2 h3 h4 I P hb => tryF_well (chF_rec d o h2) h2 hat hpos hA hown (robAt l i).f1 (C o) n2 (fun v h => h) h3 h4 I P hb⟩
theorem chF_top {nx : List Int} {i : Nat} (I : Inv l C nx l.length) (hi : i < l.length) (hneg : nx.getD i 0 < 0) : Inv l C (chF l C l.length nx i (-1)).2 l.length := by
 obtain ⟨I2, P⟩ := I.push hi hneg
 obtain ⟨d, hd⟩ : ∃ d, l.length = d + 1 := ⟨l.length - 1, by omega⟩
 have ho : opN nx ≤ d + 1 := by have := opN_len nx; have := I.len; omega
 have R := chF_rec hat hpos hA hown d i hi
 have hw := tryF_well R hi hat hpos hA hown (-1) (C i) nx (fun v h => h) ho hneg I2 P (tryF_never R hi hat hpos hA hown (C i) nx (fun v h => h) (hown i hi) ho hneg I2 P)
 have e : chF l C l.length nx i (-1) = tryF (fun n2 o => chF l C d n2 o (robAt l i).f1) l (-1) i nx (C i) := by rw [hd, chF]
 rw [e]; exact hw
theorem stepF_inv : ∀ (ts nx : List Int), (∀ t ∈ ts, 0 ≤ t ∧ t < (l.length : Int)) → Inv l C nx l.length → Inv l C (stepF l C ts nx) l.length ∧ (∀ j : Nat, j < l.length → 0 ≤ nx.getD j 0 → (stepF l C ts nx).getD j 0 = nx.getD j 0) ∧ ∀ t ∈ ts, 0 ≤ (stepF l C ts nx).getD t.toNat 0
 | [], nx, _, I => ⟨I, fun _ _ _ => rfl, by simp⟩
 | t :: ts, nx, ht, I => by
   have h1 := ht t (by simp)
   have hts : ∀ u ∈ ts, 0 ≤ u ∧ u < (l.length : Int) := fun u hu => ht u (by simp [hu])
   unfold stepF
   by_cases hneg : nx.getD t.toNat 0 < 0
   ·rw [if_pos hneg]
    have hl := chF_left l C hat hpos l.length nx t.toNat (-1) I.len (by omega) (by have := opN_len nx; have := I.len; omega) hneg
    obtain ⟨a1, a2, a3⟩ := stepF_inv ts _ hts (chF_top hat hpos hA hown I (by omega) hneg)
    refine ⟨a1, fun j hj h0 => ?_, fun u hu => ?_⟩
    ·have hjt : j ≠ t.toNat := by rintro rfl; omega
     rw [a2 j hj (by rw [hl.keep j hjt h0]; exact h0), hl.keep j hjt h0]
    ·rcases List.mem_cons.1 hu with rfl | hu
     ·rw [a2 u.toNat (by omega) hl.own]; exact hl.own
     ·exact a3 u hu
   ·rw [if_neg hneg]
    obtain ⟨a1, a2, a3⟩ := stepF_inv ts nx hts I
    refine ⟨a1, a2, fun u hu => ?_⟩
    rcases List.mem_cons.1 hu with rfl | hu
    ·rw [a2 u.toNat (by omega) (by omega)]; omega
    ·exact a3 u hu
end
theorem inv_none (l : List S37) (C : Nat → List Int) (hat : ∀ j, j < l.length → 0 ≤ (robAt l j).f1) : Inv l C (List.replicate l.length (-1)) l.length := by
 have e : ∀ j : Nat, j < l.length → (List.replicate l.length (-1 : Int)).getD j 0 = -1 := fun j hj => by rw [List.getD_eq_getElem?_getD, List.getElem?_replicate, if_pos hj]; rfl
 refine ⟨by simp, fun i hi h => ?_, fun i j hi _ h => ?_, fun i j hi _ _ h => ?_, fun p hp _ _ j hj => ?_⟩
 ·rw [e i hi] at h; omega
 ·rw [e i hi] at h; omega
 ·rw [e i hi] at h; omega
 ·rw [e j hj]; have := hat p hp; omega
theorem crew_apt {w h : Int} {cs : List Int} {l : List S37} (hc : crewOk w h cs l = true) : Apt l := by
 unfold crewOk at hc
 rw [Bool.and_eq_true, Bool.and_eq_true, decide_eq_true_eq] at hc
 have ha := allFrom_iff.1 hc.2.2
 have key : ∀ i j : Nat, i < j → j < l.length → (robAt l i).f1 ≠ (robAt l j).f1 := fun i j hij hj e => by
  have h1 := ha j (Nat.zero_le _) hj
  unfold robotAtOk at h1
  rw [Bool.and_eq_true, Bool.and_eq_true] at h1
  have h2 := allFrom_iff.1 h1.2.2 i (Nat.zero_le _) hij
  unfold notThere at h2
  rw [decide_eq_true e] at h2
  cases h2
 intro i j hi hj e
 rcases Nat.lt_trichotomy i j with h | h | h
 ·exact absurd e (key i j h hj)
 ·exact h
 ·exact absurd e.symm (key j i h hi)
theorem crew_own {w h : Int} {cs : List Int} {l : List S37} (hc : crewOk w h cs l = true) : ∀ j, j < l.length → (robAt l j).f1 ∈ choicesOf w h cs (robAt l j) := fun j hj => by
 obtain ⟨_, _, hr⟩ := crew_rob hc
 rw [(hr j hj).eq]
 have hso := sortF_sorted (farLt_as (farOf w h cs (robAt l j).f1 (robAt l j).f2 (robAt l j).f3) (cs.length : Int) (robAt l j).f1) (farLt_nt _ _ _) (outOf w h cs (robAt l j).f1 (robAt l j).f2 (robAt l j).f3)
 exact (hso.mem _).2 (outOf_mem.2 (Or.inl rfl))
structure Stepped (w h : Int) (cs : List Int) (l : List S37) (nx : List Int) : Prop where
 len : nx.length = l.length
 cho : ∀ i : Nat, i < l.length → nx.getD i 0 ∈ choicesOf w h cs (robAt l i)
 dis : ∀ i j : Nat, i < l.length → j < l.length → nx.getD i 0 = nx.getD j 0 → i = j
 swp : ∀ i j : Nat, i < l.length → j < l.length → i ≠ j → nx.getD i 0 = (robAt l j).f1 → nx.getD j 0 ≠ (robAt l i).f1
theorem step_facts {w h : Int} {cs : List Int} {l : List S37} (hc : crewOk w h cs l = true) : Stepped w h cs l (stepOf w h cs l) := by
 obtain ⟨_, _, hr⟩ := crew_rob hc
 have hat : ∀ j, j < l.length → 0 ≤ (robAt l j).f1 := fun j hj => (hr j hj).at0
 obtain ⟨I, _, hcl⟩ := stepF_inv (C := fun i => choicesOf w h cs (robAt l i)) hat (fun j hj v hv => ((hr j hj).ch0 v hv).1) (crew_apt hc) (crew_own hc) (turnsOf l) (List.replicate l.length (-1)) turnsOf_in (inv_none l _ hat)
 have hall : ∀ j : Nat, j < l.length → 0 ≤ (stepOf w h cs l).getD j 0 := fun j hj => by
  have := hcl (j : Int) (((turns_sorted l).mem _).2 (upto_mem'.2 (by omega)))
  rw [Int.toNat_natCast] at this
  exact this
 exact ⟨I.len, fun i hi => I.cho i hi (hall i hi), fun i j hi hj => I.dis i j hi hj (hall i hi), fun i j hi hj hne => I.swp i j hi hj hne (hall i hi) (hall j hj)⟩

theorem count_two {p : Int → Bool} : ∀ {l l' : List Int}, l'.length = l.length → (∀ i : Nat, i < l.length → p (l'.getD i 0) = true → p (l.getD i 0) = true) →
  l'.countP p ≤ l.countP p ∧ (l'.countP p = l.countP p → ∀ i : Nat, i < l.length → p (l.getD i 0) = true → p (l'.getD i 0) = true)
 | [], [], _, _ => ⟨Nat.le_refl _, fun _ i hi => by simp at hi⟩
 | x :: l, y :: l', hl, h => by
  have ih := count_two (p := p) (l := l) (l' := l') (by simpa using hl) (fun i hi hp => by have := h (i + 1) (by simpa using hi) (by simpa using hp); simpa using this)
  have h0 := h 0 (by simp) 
  simp only [List.getD_cons_zero] at h0
  rw [List.countP_cons, List.countP_cons]
  by_cases hx : p x = true <;> by_cases hy : p y = true
  ·simp only [hx, hy, if_true]
   refine ⟨by omega, fun e i hi hp => ?_⟩
   cases i with
   | zero => simpa using hy
   | succ i => simpa using ih.2 (by omega) i (by simpa using hi) (by simpa using hp)
  ·simp only [hx, hy, if_true]
   refine ⟨by simp; omega, fun e => ?_⟩
   simp at e
   omega
  ·exact absurd (h0 hy) hx
  ·simp only [hx, hy]
   refine ⟨by simpa using ih.1, fun e i hi hp => ?_⟩
   cases i with
   | zero => simp at hp; exact absurd hp hx
   | succ i => simpa using ih.2 (by simpa using e) i (by simpa using hi) (by simpa using hp)
def cnt (d : List Int) : Nat := d.countP (fun x => decide (0 ≤ x))
theorem cnt_le (d : List Int) : cnt d ≤ d.length := List.countP_le_length
theorem rd_getD {d : List Int} {i : Nat} : d.getD i 0 = rd d (i : Int) := by unfold rd; rw [Int.toNat_natCast]
theorem cnt_sub {d d' : List Int} (hl : d'.length = d.length) (h : ∀ c : Int, 0 ≤ c → c < d.length → 0 ≤ rd d' c → 0 ≤ rd d c) :
  cnt d' ≤ cnt d ∧ (cnt d' = cnt d → ∀ c : Int, 0 ≤ c → c < d.length → 0 ≤ rd d c → 0 ≤ rd d' c) := by
 have := count_two (p := fun x => decide (0 ≤ x)) hl (fun i hi hp => by
  simp only [decide_eq_true_eq, rd_getD] at hp ⊢
  exact h i (by omega) (by omega) hp)
 refine ⟨this.1, fun e c h0 h1 hc => ?_⟩
 have h2 := this.2 e c.toNat (by omega)
 simp only [decide_eq_true_eq, rd_getD, Int.toNat_of_nonneg h0] at h2
 exact h2 hc
theorem cnt_eq {d d' : List Int} (hl : d'.length = d.length) (h : ∀ c : Int, 0 ≤ c → c < d.length → (0 ≤ rd d' c ↔ 0 ≤ rd d c)) : cnt d' = cnt d :=
 Nat.le_antisymm (cnt_sub hl fun c h0 h1 => (h c h0 h1).1).1 (cnt_sub hl.symm fun c h0 h1 => (h c h0 (by omega)).2).1
theorem cnt_set {d : List Int} {a : Int} (h0 : 0 ≤ a) (h1 : a < d.length) (h : 0 ≤ rd d a) : cnt (d.set a.toNat (-1)) + 1 = cnt d := by
 unfold cnt
 have h2 : a.toNat < d.length := by omega
 rw [List.countP_set h2]
 have e : 0 ≤ d[a.toNat] := by unfold rd at h; rwa [getD_at h2] at h
 have hp : 0 < d.countP (fun x => decide (0 ≤ x)) := List.countP_pos_iff.2 ⟨d[a.toNat], List.getElem_mem h2, by simpa using e⟩
 simp only [decide_eq_true_eq, if_pos e, if_neg (show ¬ (0 : Int) ≤ -1 by omega)]
 omega
theorem cnt_but {d d' : List Int} {a : Int} (hl : d'.length = d.length) (h0 : 0 ≤ a) (h1 : a < d.length) (ha : 0 ≤ rd d a) (h : ∀ c : Int, 0 ≤ c → c < d.length → 0 ≤ rd d' c → 0 ≤ rd d c ∧ c ≠ a) :
  cnt d' + 1 ≤ cnt d ∧ (cnt d' + 1 = cnt d ↔ ∀ c : Int, 0 ≤ c → c < d.length → c ≠ a → 0 ≤ rd d c → 0 ≤ rd d' c) := by
 have hs := cnt_set h0 h1 ha
 have hr : ∀ c : Int, 0 ≤ c → rd (d.set a.toNat (-1)) c = if c = a then -1 else rd d c := fun c hc => rd_set h0 h1 hc
 have h3 := cnt_sub (d := d.set a.toNat (-1)) (d' := d') (by rw [hl, List.length_set]) (fun c c0 c1 c2 => by
  rw [List.length_set] at c1
  have := h c c0 c1 c2
  rw [hr c c0, if_neg this.2]; exact this.1)
 refine ⟨by omega, fun e c c0 c1 ca c2 => h3.2 (by omega) c c0 (by rw [List.length_set]; exact c1) (by rw [hr c c0, if_neg ca]; exact c2), fun hh => ?_⟩
 have : cnt d' = cnt (d.set a.toNat (-1)) := cnt_eq (by rw [hl, List.length_set]) fun c c0 c1 => by
  rw [List.length_set] at c1
  rw [hr c c0]
  by_cases ca : c = a
  ·rw [if_pos ca]
   refine ⟨fun g => absurd ca (h c c0 c1 g).2, fun g => by omega⟩
  ·rw [if_neg ca]
   exact ⟨fun g => (h c c0 c1 g).1, fun g => hh c c0 c1 ca g⟩
 omega
abbrev yes : Int → Bool := fun _ => true
theorem Reach.refl (nb : Int → List Int) (go : Int → Bool) (a : Int) : Reach nb go a a := ⟨0, .nil⟩
theorem Reach.trans {nb : Int → List Int} {go : Int → Bool} {a b c : Int} : Reach nb go a b → Reach nb go b c → Reach nb go a c := fun ⟨_, w⟩ ⟨_, w'⟩ => ⟨_, w.trans w'⟩
theorem Reach.one {nb : Int → List Int} {a b : Int} (h : b ∈ nb a) : Reach nb yes a b := ⟨1, .snoc .nil rfl h⟩
theorem Reach.mono {nb nb' : Int → List Int} {a c : Int} (h : ∀ a b : Int, b ∈ nb a → b ∈ nb' a) : Reach nb yes a c → Reach nb' yes a c := fun ⟨k, w⟩ => ⟨k, Walk.mono (fun a b _ h' => ⟨rfl, h a b h'⟩) w⟩
theorem Reach.stay {nb : Int → List Int} {P : Int → Prop} {a c : Int} (ha : P a) (h : ∀ b c : Int, P b → c ∈ nb b → P c) : Reach nb yes a c → P c := fun ⟨_, w⟩ => Walk.stay ha (fun b c hb _ hc => h b c hb hc) w
theorem goF_yes (cs : List Int) (dst : Int) : goF cs dst false = yes := by funext c; unfold goF; simp
def Cell (cs : List Int) (c : Int) : Prop := 0 ≤ c ∧ c < (cs.length : Int) ∧ rd cs c ≠ 0
theorem cell_next {w h : Int} {cs : List Int} (hf : floorOk w h cs = true) {a b : Int} (ha : Cell cs a) (hb : b ∈ nbF w h cs a) : Cell cs b ∧ a ∈ nbF w h cs b :=
 ⟨⟨(nbF_in hf a ha.1 ha.2.1 b hb).1, (nbF_in hf a ha.1 ha.2.1 b hb).2, nbF_no_wall hb⟩, nbF_sym hf ha.1 ha.2.1 ha.2.2 hb⟩
theorem walk_back {w h : Int} {cs : List Int} (hf : floorOk w h cs = true) {a : Int} (ha : Cell cs a) : ∀ {k : Nat} {c : Int}, Walk (nbF w h cs) yes a k c → Cell cs c ∧ Walk (nbF w h cs) yes c k a
 | _, _, .nil => ⟨ha, .nil⟩
 | _, _, .snoc w g hb => by
  have ih := walk_back hf ha w
  have := cell_next hf ih.1 hb
  exact ⟨this.1, Walk.cons rfl this.2 ih.2⟩
theorem reach_back {w h : Int} {cs : List Int} (hf : floorOk w h cs = true) {a c : Int} (ha : Cell cs a) : Reach (nbF w h cs) yes a c → Cell cs c ∧ Reach (nbF w h cs) yes c a := fun ⟨k, w⟩ => ⟨(walk_back hf ha w).1, k, (walk_back hf ha w).2⟩
theorem field_B {w h : Int} {cs : List Int} {dst : Int} (hf : floorOk w h cs = true) (h0 : 0 ≤ dst) (h1 : dst < (cs.length : Int)) : Bfs (nbF w h cs) yes dst cs.length (fieldL w h cs dst false) := by
 have := field_bfs false hf h0 h1
 rw [goF_yes] at this; exact this
theorem field_reach {w h : Int} {cs : List Int} {dst c : Int} (hf : floorOk w h cs = true) (h0 : 0 ≤ dst) (h1 : dst < (cs.length : Int)) (c0 : 0 ≤ c) (c1 : c < (cs.length : Int)) : 0 ≤ rd (fieldL w h cs dst false) c ↔ Reach (nbF w h cs) yes dst c :=
 (field_B hf h0 h1).reach (nbF_in hf) ⟨h0, h1⟩ c0 c1
def openN (cs : List Int) : Nat := cs.countP (fun x => decide (x ≠ 0))
def firstOpen : List Int → Nat → Int
 | [], _ => -1
 | x :: l, i => if x = 0 then firstOpen l (i + 1) else i
def togetherOf (w h : Int) (cs : List Int) : Bool := floorOk w h cs && (decide (0 < openN cs) && decide (cnt (fieldL w h cs (firstOpen cs 0) false) = openN cs))
theorem firstOpen_cell : ∀ (l : List Int) (i : Nat), 0 < openN l → ∃ j : Nat, firstOpen l i = ((i + j : Nat) : Int) ∧ j < l.length ∧ l.getD j 0 ≠ 0
 | [], i, h => by simp [openN] at h
 | x :: l, i, h => by
  unfold firstOpen
  by_cases e : x = 0
  ·rw [if_pos e]
   obtain ⟨j, h1, h2, h3⟩ := firstOpen_cell l (i + 1) (by unfold openN at h ⊢; rw [List.countP_cons] at h; simpa [e] using h)
   exact ⟨j + 1, by rw [h1]; congr 1; omega, by simp; omega, by simpa using h3⟩
  ·rw [if_neg e]
   exact ⟨0, rfl, by simp, by simpa using e⟩
theorem first_cell {cs : List Int} (h : 0 < openN cs) : Cell cs (firstOpen cs 0) := by
 obtain ⟨j, h1, h2, h3⟩ := firstOpen_cell cs 0 h
 rw [Nat.zero_add] at h1
 rw [h1]
 refine ⟨by omega, by omega, ?_⟩
 rw [rd_nat']; exact h3
theorem cnt_open {w h : Int} {cs : List Int} (hf : floorOk w h cs = true) {a : Int} (ha : Cell cs a) : cnt (fieldL w h cs a false) ≤ openN cs ∧ (cnt (fieldL w h cs a false) = openN cs ↔ ∀ c, Cell cs c → Reach (nbF w h cs) yes a c) := by
 have hl := fieldL_length (ld := false) hf ha.1 ha.2.1
 -- the cells that are no walls, as a list of noughts and ones below nought
 have key : ∀ (l : List Int), openN l = cnt (l.map fun x => if x = 0 then -1 else 0) := by
  intro l
  induction l with
  | nil => rfl
  | cons x l ih =>
   unfold openN cnt at ih ⊢
   rw [List.map_cons, List.countP_cons, List.countP_cons, ih]
   by_cases e : x = 0 <;> simp [e]
 have hr : ∀ c : Int, 0 ≤ c → c < (cs.length : Int) → rd (cs.map fun x => if x = 0 then -1 else 0) c = if rd cs c = 0 then -1 else 0 := by
  intro c c0 c1
  unfold rd
  rw [getD_at (by simp; omega), getD_at (by omega)]
  simp
 have h1 := cnt_sub (d := cs.map fun x => if x = 0 then -1 else 0) (d' := fieldL w h cs a false) (by rw [hl, List.length_map]) (fun c c0 c1 hc => by
  rw [List.length_map] at c1
  have := field_no_wall (ld := false) hf ha.1 ha.2.1 ha.2.2 c0 c1 hc
  rw [hr c c0 c1, if_neg this]; omega)
 rw [← key] at h1
 refine ⟨h1.1, fun e c hc => ?_, fun hh => ?_⟩
 ·have := h1.2 e c hc.1 (by rw [List.length_map]; exact hc.2.1) (by rw [hr c hc.1 hc.2.1, if_neg hc.2.2]; omega)
  exact (field_reach hf ha.1 ha.2.1 hc.1 hc.2.1).1 this
 ·rw [key]
  refine cnt_eq (by rw [hl, List.length_map]) fun c c0 c1 => ?_
  rw [List.length_map] at c1
  rw [hr c c0 c1]
  refine ⟨fun hc => ?_, fun hc => ?_⟩
  ·have := field_no_wall (ld := false) hf ha.1 ha.2.1 ha.2.2 c0 c1 hc
   rw [if_neg this]; omega
  ·by_cases e : rd cs c = 0
   ·rw [if_pos e] at hc; omega
   ·exact (field_reach hf ha.1 ha.2.1 c0 c1).2 (hh c ⟨c0, c1, e⟩)
theorem together_all {w h : Int} {cs : List Int} (ht : togetherOf w h cs = true) : floorOk w h cs = true ∧ ∀ a b, Cell cs a → Cell cs b → Reach (nbF w h cs) yes a b := by
 unfold togetherOf at ht
 simp only [Bool.and_eq_true, decide_eq_true_eq] at ht
 have hf := ht.1
 have hc := first_cell ht.2.1
 have h2 := (cnt_open hf hc).2.1 ht.2.2
 exact ⟨hf, fun a b ha hb => ((reach_back hf hc (h2 a ha)).2).trans (h2 b hb)⟩
theorem together_of {w h : Int} {cs : List Int} (hf : floorOk w h cs = true) (hn : 0 < openN cs) (hh : ∀ a b, Cell cs a → Cell cs b → Reach (nbF w h cs) yes a b) : togetherOf w h cs = true := by
 unfold togetherOf
 rw [hf, decide_eq_true hn, decide_eq_true ((cnt_open hf (first_cell hn)).2.2 fun c hc => hh _ c (first_cell hn) hc)]; rfl

theorem spec_l1Copy_f (w h : Int) (cs : List Int) (hn : cs.length ≤ 1048576) : spec_l1Copy.f w h cs = some (w, h, cs) := by
 unfold spec_l1Copy.f
 simp (disch := omega) only [List.length_nil, List.nil_append, ↓if_pos, ↓if_neg, if_pos, if_neg, decide_eq_true_eq, ↓reduceIte, ↓wrap_sc, wrap_id, some_bind, Int.toNat_natCast, rd_nat', getD_zero', Bool.not_true, Bool.not_false, Bool.false_eq_true, decide_true, decide_false]
theorem impl_copyInts_f (cs : List Int) (hn : cs.length ≤ 1048576) : impl_copyInts.f cs = some cs := by
 unfold impl_copyInts.f
 simp (disch := omega) only [List.length_nil, List.nil_append, ↓if_pos, ↓if_neg, if_pos, if_neg, decide_eq_true_eq, ↓reduceIte, ↓wrap_sc, wrap_id, some_bind, Int.toNat_natCast, rd_nat', getD_zero', Bool.not_true, Bool.not_false, Bool.false_eq_true, decide_true, decide_false]
theorem impl_copyFloor_f (w h : Int) (cs : List Int) (hn : cs.length ≤ 1048576) : impl_copyFloor.f w h cs = some (w, h, cs) := by
 unfold impl_copyFloor.f
 simp (disch := omega) only [impl_copyInts_f cs hn, ↓if_pos, ↓if_neg, if_pos, if_neg, decide_eq_true_eq, ↓reduceIte, ↓wrap_sc, wrap_id, some_bind, Int.toNat_natCast, rd_nat', getD_zero', Bool.not_true, Bool.not_false, Bool.false_eq_true, decide_true, decide_false]

theorem floorOk_set {w h : Int} {cs : List Int} (hf : floorOk w h cs = true) (i : Nat) : floorOk w h (cs.set i 0) = true := by
 unfold floorOk kindsOk at hf ⊢
 simp only [Bool.and_eq_true, decide_eq_true_eq, allFrom_iff, List.length_set] at hf ⊢
 refine ⟨hf.1, fun j h0 hj => ?_⟩
 have := hf.2 j h0 hj
 rw [getD_at (by rw [List.length_set]; exact hj), List.getElem_set]
 split
 ·decide
 ·rwa [getD_at hj] at this
theorem nbF_set {w h : Int} {cs : List Int} (hf : floorOk w h cs = true) {i : Int} (i0 : 0 ≤ i) (i1 : i < (cs.length : Int)) {b c : Int} (b0 : 0 ≤ b) (b1 : b < (cs.length : Int)) : c ∈ nbF w h (cs.set i.toNat 0) b ↔ c ∈ nbF w h cs b ∧ c ≠ i := by
 have fb := (fitsAt hf b0 b1)
 unfold nbF
 rw [mem_nearL, mem_nearL]
 constructor
 ·rintro ⟨h1, h2, h3⟩
  have hc := mem_besideL fb.1 h1
  rw [rd_set i0 i1 hc.1] at h2
  split at h2
  ·exact absurd rfl h2
  ·rename_i hne
   exact ⟨⟨h1, h2, fun e => by cases e⟩, hne⟩
 ·rintro ⟨⟨h1, h2, h3⟩, hne⟩
  have hc := mem_besideL fb.1 h1
  exact ⟨h1, by rw [rd_set i0 i1 hc.1, if_neg hne]; exact h2, fun e => by cases e⟩
theorem reach_less {w h : Int} {cs : List Int} (hf : floorOk w h cs = true) {i : Int} (i0 : 0 ≤ i) (i1 : i < (cs.length : Int)) {a c : Int} (a0 : 0 ≤ a) (a1 : a < (cs.length : Int)) (hai : a ≠ i) (hr : Reach (nbF w h (cs.set i.toNat 0)) yes a c) : Reach (nbF w h cs) yes a c ∧ c ≠ i ∧ 0 ≤ c ∧ c < (cs.length : Int) := by
 have := Reach.stay (P := fun c => Reach (nbF w h cs) yes a c ∧ c ≠ i ∧ 0 ≤ c ∧ c < (cs.length : Int)) ⟨Reach.refl _ _ _, hai, a0, a1⟩ (fun b c hb hc => by
  have h1 := (nbF_set hf i0 i1 hb.2.2.1 hb.2.2.2).1 hc
  have h2 := nbF_in hf b hb.2.2.1 hb.2.2.2 c h1.1
  exact ⟨hb.1.trans (Reach.one h1.1), h1.2, h2.1, h2.2⟩) hr
 exact this
theorem reach_past' {w h : Int} {cs : List Int} (hf : floorOk w h cs = true) {i : Int} (i0 : 0 ≤ i) (i1 : i < (cs.length : Int)) {c : Int} (hr : Reach (nbF w h cs) yes i c) : c = i ∨ ∃ n ∈ nbF w h cs i, n ≠ i ∧ Reach (nbF w h (cs.set i.toNat 0)) yes n c := by
 obtain ⟨k, wk⟩ := hr
 have key : ∀ {k : Nat} {c : Int}, Walk (nbF w h cs) yes i k c → (0 ≤ c ∧ c < (cs.length : Int)) ∧ (c = i ∨ ∃ n ∈ nbF w h cs i, n ≠ i ∧ Reach (nbF w h (cs.set i.toNat 0)) yes n c) := by
  intro k c wk
  induction wk with
  | nil => exact ⟨⟨i0, i1⟩, Or.inl rfl⟩
  | @snoc k b c wk g hb ih =>
   have hc := nbF_in hf b ih.1.1 ih.1.2 c hb
   refine ⟨hc, ?_⟩
   by_cases hci : c = i
   ·exact Or.inl hci
   ·right
    rcases ih.2 with rfl | ⟨n, n1, n2, n3⟩
    ·exact ⟨c, hb, hci, Reach.refl _ _ _⟩
    ·exact ⟨n, n1, n2, n3.trans (Reach.one ((nbF_set hf i0 i1 ih.1.1 ih.1.2).2 ⟨hb, hci⟩))⟩
 exact (key wk).2
theorem cut_iff {w h : Int} {cs : List Int} (hf : floorOk w h cs = true) {i n0 : Int} (hi : Cell cs i) (hn : n0 ∈ nbF w h cs i) :
  cnt (fieldL w h (cs.set i.toNat 0) n0 false) + 1 = cnt (fieldL w h cs i false) ↔ ∀ n ∈ nbF w h cs i, Reach (nbF w h (cs.set i.toNat 0)) yes n0 n := by
 have hf' := floorOk_set hf i.toNat
 have hr := nbF_in hf i hi.1 hi.2.1 n0 hn
 have hne : n0 ≠ i := fun e => not_mem_self (fitsAt hf hi.1 hi.2.1).1 (by rw [e] at hn; exact (mem_nearL.1 hn).1)
 have l1 := fieldL_length (ld := false) hf hi.1 hi.2.1
 have l2 := fieldL_length (ld := false) hf' hr.1 (by rw [List.length_set]; exact hr.2)
 rw [List.length_set] at l2
 have B := field_B hf hi.1 hi.2.1
 have key := (cnt_but (d := fieldL w h cs i false) (d' := fieldL w h (cs.set i.toNat 0) n0 false) (a := i) (by rw [l1, l2]) hi.1 (by rw [l1]; exact hi.2.1) (by rw [B.zero]; omega) (fun c c0 c1 hc => by
  rw [l1] at c1
  have h1 := (field_reach hf' hr.1 (by rw [List.length_set]; exact hr.2) c0 (by rw [List.length_set]; exact c1)).1 hc
  have h2 := reach_less hf hi.1 hi.2.1 hr.1 hr.2 hne h1
  exact ⟨(field_reach hf hi.1 hi.2.1 c0 c1).2 ((Reach.one hn).trans h2.1), h2.2.1⟩)).2
 rw [key]
 constructor
 ·intro hh n hnn
  have h3 := nbF_in hf i hi.1 hi.2.1 n hnn
  have h4 : n ≠ i := fun e => not_mem_self (fitsAt hf hi.1 hi.2.1).1 (by rw [e] at hnn; exact (mem_nearL.1 hnn).1)
  have h5 := hh n h3.1 (by rw [l1]; exact h3.2) h4 ((field_reach hf hi.1 hi.2.1 h3.1 h3.2).2 (Reach.one hnn))
  exact (field_reach hf' hr.1 (by rw [List.length_set]; exact hr.2) h3.1 (by rw [List.length_set]; exact h3.2)).1 h5
 ·intro hh c c0 c1 hci hc
  rw [l1] at c1
  have h1 := (field_reach hf hi.1 hi.2.1 c0 c1).1 hc
  rcases reach_past' hf hi.1 hi.2.1 h1 with e | ⟨n, n1, n2, n3⟩
  ·exact absurd e hci
  ·exact (field_reach hf' hr.1 (by rw [List.length_set]; exact hr.2) c0 (by rw [List.length_set]; exact c1)).2 ((hh n n1).trans n3)
def cutB (w h : Int) (cs : List Int) (i : Int) : Bool := match nbF w h cs i with
 | [] => false
 | n0 :: _ => !decide (cnt (fieldL w h (cs.set i.toNat 0) n0 false) + 1 = cnt (fieldL w h cs i false))
def isCut (w h : Int) (cs : List Int) (j : Nat) : Bool := decide (cs.getD j 0 ≠ 0) && cutB w h cs j
def cutsOf (w h : Int) (cs : List Int) : List Int := if floorOk w h cs = true then filtFrom cs.length 0 (isCut w h cs) else []
theorem cut_single {w h : Int} {cs : List Int} (hf : floorOk w h cs = true) {i : Int} (hi : Cell cs i) (hl : (nbF w h cs i).length ≤ 1) : cutB w h cs i = false := by
 unfold cutB
 match e : nbF w h cs i with
 | [] => rfl
 | n0 :: t =>
  rw [e] at hl
  have ht : t = [] := by cases t with | nil => rfl | cons a b => simp at hl
  have := (cut_iff hf hi (n0 := n0) (by rw [e]; simp)).2 (fun n hn => by
   rw [e, ht, List.mem_singleton] at hn
   rw [hn]; exact Reach.refl _ _ _)
  simp only [decide_eq_true this, Bool.not_true]
theorem cut_far {w h : Int} {cs : List Int} (hf : floorOk w h cs = true) {i : Int} (hi : Cell cs i) {n0 : Int} {t : List Int} (e : nbF w h cs i = n0 :: t) : cutB w h cs i = true ↔ ∃ n ∈ nbF w h cs i, ¬ Reach (nbF w h (cs.set i.toNat 0)) yes n0 n := by
 have k := cut_iff hf hi (n0 := n0) (by rw [e]; simp)
 unfold cutB
 rw [e]
 simp only [Bool.not_eq_true', decide_eq_false_iff_not]
 rw [k, e]
 exact Classical.not_forall.trans ⟨fun ⟨n, hn⟩ => by
  have := Classical.not_imp.1 hn
  exact ⟨n, this.1, this.2⟩, fun ⟨n, h1, h2⟩ => ⟨n, fun hh => h2 (hh h1)⟩⟩

theorem impl_open_l0 (cs : List Int) (hn : cs.length ≤ 1048576) : ∀ (d i : Nat) (m : Nat) (f : Int), i + d = cs.length → m ≤ i → Ev (fun k => impl_open.l0 k m f cs cs.length i) (((m + openN (cs.drop i) : Nat) : Int), if m = 0 then (if 0 < openN (cs.drop i) then firstOpen (cs.drop i) i else f) else f)
 | 0, i, m, f, e, hm => Ev.unroll (by
   simp only [impl_open.l0]
   refine Ev.ifn (by omega) (Ev.fin ?_)
   rw [drop_end (by omega)]
   simp [openN])
 | d + 1, i, m, f, e, hm => Ev.unroll (by
   have hi : i < cs.length := by omega
   have er := rd_nat hi
   have ho : openN (cs.drop i) = (if cs[i] = 0 then 0 else 1) + openN (cs.drop (i + 1)) := by
    rw [drop_cons hi]
    unfold openN
    rw [List.countP_cons]
    by_cases e : cs[i] = 0 <;> simp [e]; omega
   have hfi : firstOpen (cs.drop i) i = if cs[i] = 0 then firstOpen (cs.drop (i + 1)) (i + 1) else i := by rw [drop_cons hi]; rfl
   simp only [impl_open.l0, er]
   refine Ev.ifp (by omega) (Ev.ifp (by omega) (Ev.ifp (by omega) ?_))
   rw [wrap_sc (i := i) (by omega), ho, hfi]
   by_cases h0 : cs[i] = 0
   ·rw [if_pos h0, if_pos h0, Nat.zero_add]
    exact Ev.ifp h0 (impl_open_l0 cs hn d (i + 1) m f (by omega) (by omega))
   ·rw [if_neg h0, if_neg h0]
    refine Ev.ifn h0 ?_
    rw [wrap_sc (i := m) (by omega)]
    have ih := fun f => impl_open_l0 cs hn d (i + 1) (m + 1) f (by omega) (by omega)
    simp only [if_neg (show ¬ m + 1 = 0 by omega)] at ih
    rw [show m + (1 + openN (cs.drop (i + 1))) = m + 1 + openN (cs.drop (i + 1)) by omega]
    by_cases hm0 : m = 0
    ·rw [if_pos hm0, if_pos (by omega)]
     exact Ev.ifp (by omega) (ih i)
    ·rw [if_neg hm0]
     exact Ev.ifn (by omega) (ih f))
theorem impl_open_f (w h : Int) (cs : List Int) (hn : cs.length ≤ 1048576) : Ev (fun k => impl_open.f k w h cs) (((openN cs : Nat) : Int), if 0 < openN cs then firstOpen cs 0 else -1) := by
 have := impl_open_l0 cs hn cs.length 0 0 (-1) (by omega) (by omega)
 simp only [Nat.zero_add, List.drop_zero, if_true] at this
 exact this
theorem impl_reach_l0 (d : List Int) (hn : d.length ≤ 1048576) : ∀ (e i m : Nat), i + e = d.length → m ≤ i → Ev (fun k => impl_reach.l0 k m d d.length i) ((m + cnt (d.drop i) : Nat) : Int)
 | 0, i, m, he, hm => Ev.unroll (by
   simp only [impl_reach.l0]
   exact Ev.ifn (by omega) (Ev.fin (by rw [drop_end (by omega)]; rfl)))
 | e + 1, i, m, he, hm => Ev.unroll (by
   have hi : i < d.length := by omega
   have er := rd_nat hi
   have ho : cnt (d.drop i) = (if 0 ≤ d[i] then 1 else 0) + cnt (d.drop (i + 1)) := by
    rw [drop_cons hi]
    unfold cnt
    rw [List.countP_cons]
    by_cases e : 0 ≤ d[i] <;> simp [e]; omega
   simp only [impl_reach.l0, er]
   refine Ev.ifp (by omega) (Ev.ifp (by omega) (Ev.ifp (by omega) ?_))
   rw [wrap_sc (i := i) (by omega), ho]
   by_cases h0 : 0 ≤ d[i]
   ·rw [if_pos h0]
    refine Ev.ifp h0 ?_
    rw [wrap_sc (i := m) (by omega), show m + (1 + cnt (d.drop (i + 1))) = m + 1 + cnt (d.drop (i + 1)) by omega]
    exact impl_reach_l0 d hn e (i + 1) (m + 1) (by omega) (by omega)
   ·rw [if_neg h0, Nat.zero_add]
    exact Ev.ifn (by omega) (impl_reach_l0 d hn e (i + 1) m (by omega) (by omega)))
theorem impl_reach_f (w h : Int) (cs : List Int) (a : Int) (hf : floorOk w h cs = true) (h0 : 0 ≤ a) (h1 : a < (cs.length : Int)) : Ev (fun k => impl_reach.f k w h cs a) ((cnt (fieldL w h cs a false) : Nat) : Int) := by
 have hl := fieldL_length (ld := false) hf h0 h1
 have ha := floorOk_area hf
 unfold impl_reach.f
 refine Ev.bind (impl_field_f w h cs a false hf h0 h1) ?_
 have := impl_reach_l0 (fieldL w h cs a false) (by omega) _ 0 0 (Nat.zero_add _) (by omega)
 simp only [Nat.zero_add, List.drop_zero] at this
 exact this
theorem impl_Together_f (w h : Int) (cs : List Int) (hn : cs.length ≤ BIG) : Ev (fun k => impl_Together.f k w h cs) (togetherOf w h cs) := by
 unfold impl_Together.f togetherOf
 refine Ev.bind (impl_FloorOk_f w h cs hn) ?_
 by_cases hf : floorOk w h cs = true
 ·have ha := floorOk_area hf
  refine Ev.ifp hf (Ev.bind (impl_open_f w h cs (by omega)) ?_)
  dsimp only
  by_cases ho : 0 < openN cs
  ·have hc := first_cell ho
   rw [if_pos ho, hf, decide_eq_true ho]
   refine Ev.ifp (by omega) (Ev.bind (impl_reach_f w h cs _ hf hc.1 hc.2.1) (Ev.fin ?_))
   rw [Bool.true_and, Bool.true_and, Bool.eq_iff_iff, beq_iff_eq, decide_eq_true_eq]
   omega
  ·rw [decide_eq_false ho, Bool.false_and, Bool.and_false]
   exact Ev.ifn (by omega) (Ev.now _)
 ·refine Ev.ifn hf (Ev.fin ?_)
  rw [Bool.not_eq_true] at hf
  rw [hf, Bool.false_and]

theorem impl_parts_f (w h : Int) (cs : List Int) (i : Nat) (hf : floorOk w h cs = true) (hi : Cell cs i) : Ev (fun k => impl_parts.f k w h cs i) (cutB w h cs i) := by
 have ha := floorOk_area hf
 have fx := fitsAt hf hi.1 hi.2.1
 have hf' := floorOk_set hf i
 have c1 := cnt_le (fieldL w h cs i false)
 have l1 := fieldL_length (ld := false) hf hi.1 hi.2.1
 have hi1 := hi.2.1
 have hnear := impl_near_f w h cs i false fx.1 fx.2
 rw [show nearL w h cs i false = nbF w h cs i from rfl] at hnear
 have hnb := nbF_in hf i hi.1 hi.2.1
 have hcb : cutB w h cs i = match nbF w h cs i with
  | [] => false
  | n0 :: _ => !decide (cnt (fieldL w h (cs.set (i : Int).toNat 0) n0 false) + 1 = cnt (fieldL w h cs i false)) := rfl
 unfold impl_parts.f
 match e : nbF w h cs i with
 | [] =>
  rw [e] at hnear hcb
  rw [hcb]
  exact Ev.bind hnear (Ev.ifp rfl (Ev.now _))
 | n0 :: t =>
  rw [e] at hnear hcb
  rw [hcb]
  have hr := hnb n0 (by rw [e]; simp)
  have l2 := fieldL_length (ld := false) hf' hr.1 (by rw [List.length_set]; exact hr.2)
  have c2 := cnt_le (fieldL w h (cs.set i 0) n0 false)
  rw [l2, List.length_set] at c2
  refine Ev.bind hnear (Ev.ifn (by first | (simp; done) | (simp; omega)) (Ev.bind (impl_reach_f w h cs i hf hi.1 hi.2.1) ?_))
  simp only [impl_copyFloor_f w h cs (by omega), some_bind]
  refine Ev.ifp (by omega) (Ev.ifp (by omega) (Ev.ifp (by first | (simp; done) | (simp; omega)) ?_))
  rw [show rd (n0 :: t) 0 = n0 from rfl, Int.toNat_natCast]
  refine Ev.bind (impl_reach_f w h (cs.set i 0) n0 hf' hr.1 (by rw [List.length_set]; exact hr.2)) (Ev.fin ?_)
  rw [wrap_id (by omega) (by omega), Bool.eq_iff_iff]
  simp only [bne_iff_ne, ne_eq, Bool.not_eq_true', decide_eq_false_iff_not]
  omega
theorem impl_Cuts_l0 (w h : Int) (cs : List Int) (hf : floorOk w h cs = true) : ∀ (d i : Nat) (acc : List Int), i + d = cs.length → acc.length ≤ i → Ev (fun k => impl_Cuts.l0 k acc cs cs.length i w h cs) (acc ++ filtFrom cs.length i (isCut w h cs))
 | 0, i, acc, e, ha => Ev.unroll (by
   simp only [impl_Cuts.l0]
   exact Ev.ifn (by omega) (Ev.fin (by rw [filtFrom_end (by omega)]; simp)))
 | d + 1, i, acc, e, ha => Ev.unroll (by
   have hA := floorOk_area hf
   have hi : i < cs.length := by omega
   simp only [impl_Cuts.l0, wrap_sc (show i < 9223372036854775807 by omega)]
   refine Ev.ifp (by omega) (Ev.ifp (by omega) (Ev.ifp (by omega) ?_))
   by_cases h0 : rd cs i = 0
   ·rw [filtFrom_no hi (by unfold isCut; rw [← rd_nat', h0]; rfl)]
    exact Ev.ifp h0 (impl_Cuts_l0 w h cs hf d (i + 1) acc (by omega) (by omega))
   ·have hc : isCut w h cs i = cutB w h cs i := by unfold isCut; rw [← rd_nat', decide_eq_true h0, Bool.true_and]
    refine Ev.ifn h0 (Ev.bind (impl_parts_f w h cs i hf ⟨by omega, by omega, h0⟩) (ev_ite' (fun h1 => ?_) (fun h1 => ?_)))
    ·rw [filtFrom_yes hi (by rw [hc]; exact h1)]
     have := impl_Cuts_l0 w h cs hf d (i + 1) (acc ++ [(i : Int)]) (by omega) (by first | (simp; done) | (simp; omega))
     rw [List.append_assoc] at this
     exact Ev.ifp (by omega) this
    ·rw [filtFrom_no hi (by rw [hc]; simpa using h1)]
     exact impl_Cuts_l0 w h cs hf d (i + 1) acc (by omega) (by omega))
theorem impl_Cuts_f (w h : Int) (cs : List Int) (hn : cs.length ≤ BIG) : Ev (fun k => impl_Cuts.f k w h cs) (cutsOf w h cs) := by
 unfold impl_Cuts.f cutsOf
 exact Ev.bind (impl_FloorOk_f w h cs hn) (ev_ite (fun hf => impl_Cuts_l0 w h cs hf cs.length 0 [] (by omega) (by simp)) (fun _ => Ev.now _))

theorem spec_l2Reached_l0 (d : List Int) (hn : d.length ≤ 1048576) : ∀ (e i m : Nat), i + e = d.length → m ≤ i → Ev (fun k => spec_l2Reached.l0 k m d i) ((m + cnt (d.drop i) : Nat) : Int)
 | 0, i, m, he, hm => Ev.unroll (by
   simp only [spec_l2Reached.l0]
   exact Ev.ifn (by omega) (Ev.fin (by rw [drop_end (by omega)]; rfl)))
 | e + 1, i, m, he, hm => Ev.unroll (by
   have hi : i < d.length := by omega
   have er := rd_nat hi
   have ho : cnt (d.drop i) = (if 0 ≤ d[i] then 1 else 0) + cnt (d.drop (i + 1)) := by
    rw [drop_cons hi]
    unfold cnt
    rw [List.countP_cons]
    by_cases e : 0 ≤ d[i] <;> simp [e]; omega
   simp only [spec_l2Reached.l0, er]
   refine Ev.ifp (by omega) (Ev.ifp (by omega) ?_)
   rw [wrap_sc (i := i) (by omega), ho]
   by_cases h0 : 0 ≤ d[i]
   ·rw [if_pos h0]
    refine Ev.ifp h0 ?_
    rw [wrap_sc (i := m) (by omega), show m + (1 + cnt (d.drop (i + 1))) = m + 1 + cnt (d.drop (i + 1)) by omega]
    exact spec_l2Reached_l0 d hn e (i + 1) (m + 1) (by omega) (by omega)
   ·rw [if_neg h0, Nat.zero_add]
    exact Ev.ifn (by omega) (spec_l2Reached_l0 d hn e (i + 1) m (by omega) (by omega)))
theorem spec_l2Reached_j0 (w h : Int) (cs : List Int) (a : Int) (hf : floorOk w h cs = true) (h0 : 0 ≤ a) (h1 : a < (cs.length : Int)) : Ev (fun k => spec_l2Reached.j0 k a w h cs) ((cnt (fieldL w h cs a false) : Nat) : Int) := Ev.unroll (by
 have hl := fieldL_length (ld := false) hf h0 h1
 have ha := floorOk_area hf
 simp only [spec_l2Reached.j0]
 refine Ev.bind (spec_l2Field_f w h cs a false hf h0 h1) ?_
 have := spec_l2Reached_l0 (fieldL w h cs a false) (by omega) _ 0 0 (Nat.zero_add _) (by omega)
 simp only [Nat.zero_add, List.drop_zero] at this
 exact this)
theorem spec_l2Reached_all (w h : Int) (cs : List Int) (a : Int) (hf : floorOk w h cs = true) (h0 : 0 ≤ a) (h1 : a < (cs.length : Int)) : Ev (fun k => spec_l2Reached.f k w h cs a (-1)) ((cnt (fieldL w h cs a false) : Nat) : Int) := by
 have ha := floorOk_area hf
 unfold spec_l2Reached.f
 simp only [spec_l1Copy_f w h cs (by omega), some_bind]
 exact Ev.ifn (by omega) (spec_l2Reached_j0 w h cs a hf h0 h1)
theorem spec_l2Reached_but (w h : Int) (cs : List Int) (a : Int) (i : Nat) (hf : floorOk w h cs = true) (h0 : 0 ≤ a) (h1 : a < (cs.length : Int)) (hi : i < cs.length) : Ev (fun k => spec_l2Reached.f k w h cs a i) ((cnt (fieldL w h (cs.set i 0) a false) : Nat) : Int) := by
 have ha := floorOk_area hf
 unfold spec_l2Reached.f
 simp only [spec_l1Copy_f w h cs (by omega), some_bind, Int.toNat_natCast]
 exact Ev.ifp (by omega) (Ev.ifp (by omega) (Ev.ifp (by omega) (spec_l2Reached_j0 w h _ a (floorOk_set hf i) h0 (by rw [List.length_set]; exact h1))))

theorem spec_Cuts_l0 (w h : Int) (cs : List Int) (hf : floorOk w h cs = true) : ∀ (d i : Nat) (acc : List Int), i + d = cs.length → acc.length ≤ i → Ev (fun k => spec_Cuts.l0 k acc i w h cs) (acc ++ filtFrom cs.length i (isCut w h cs))
 | 0, i, acc, e, ha => Ev.unroll (by
   simp only [spec_Cuts.l0]
   exact Ev.ifn (by omega) (Ev.fin (by rw [filtFrom_end (by omega)]; simp)))
 | d + 1, i, acc, e, ha => Ev.unroll (by
   have hA := floorOk_area hf
   have hi : i < cs.length := by omega
   have fx := fitsAt hf (show (0 : Int) ≤ (i : Int) by omega) (by omega)
   simp only [spec_Cuts.l0, wrap_sc (show i < 9223372036854775807 by omega)]
   refine Ev.ifp (by omega) (Ev.ifp (by omega) ?_)
   have go : ∀ b : Bool, isCut w h cs i = b → Ev (fun k => if b = true then (if acc.length < 17592186044416 then spec_Cuts.l0 k (acc ++ [(i : Int)]) ((i + 1 : Nat) : Int) w h cs else none) else spec_Cuts.l0 k acc ((i + 1 : Nat) : Int) w h cs) (acc ++ filtFrom cs.length i (isCut w h cs)) := fun b hb => by
    cases b with
    | true =>
     rw [filtFrom_yes hi hb]
     have := spec_Cuts_l0 w h cs hf d (i + 1) (acc ++ [(i : Int)]) (by omega) (by simp; omega)
     rw [List.append_assoc] at this
     exact Ev.ifp rfl (Ev.ifp (by omega) this)
    | false =>
     rw [filtFrom_no hi hb]
     exact Ev.ifn (by decide) (spec_Cuts_l0 w h cs hf d (i + 1) acc (by omega) (by omega))
   have no : isCut w h cs i = false → Ev (fun k => spec_Cuts.l0 k acc ((i + 1 : Nat) : Int) w h cs) (acc ++ filtFrom cs.length i (isCut w h cs)) := fun hb => by
    have := go false hb
    simp only [Bool.false_eq_true, if_false] at this
    exact this
   by_cases h0 : rd cs i = 0
   ·exact Ev.ifp h0 (no (by unfold isCut; rw [← rd_nat', h0]; rfl))
   ·have hc : isCut w h cs i = cutB w h cs i := by unfold isCut; rw [← rd_nat', decide_eq_true h0, Bool.true_and]
    have ci : Cell cs i := ⟨by omega, by omega, h0⟩
    have c1 := cnt_le (fieldL w h cs i false)
    have l1 := fieldL_length (ld := false) hf ci.1 ci.2.1
    have hnb := nbF_in hf i ci.1 ci.2.1
    refine Ev.ifn h0 (Ev.bind (spec_l1Near_f w h cs i false fx.1 fx.2) (Ev.bind (spec_l2Reached_all w h cs i hf ci.1 ci.2.1) ?_))
    show Ev (fun k => if ((nbF w h cs i).length : Int) > 1 then (if 0 < ((nbF w h cs i).length : Int) then (spec_l2Reached.f k w h cs (rd (nbF w h cs i) 0) i).bind _ else none) else _) _
    by_cases h1 : (nbF w h cs i).length ≤ 1
    ·exact Ev.ifn (by omega) (no (by rw [hc]; exact cut_single hf ci h1))
    ·refine Ev.ifp (by omega) (Ev.ifp (by omega) ?_)
     have hcc : cutB w h cs i = match nbF w h cs i with
      | [] => false
      | n0 :: _ => !decide (cnt (fieldL w h (cs.set (i : Int).toNat 0) n0 false) + 1 = cnt (fieldL w h cs i false)) := rfl
     match e : nbF w h cs i with
     | [] => rw [e] at h1; simp at h1
     | n0 :: t =>
      rw [e] at hcc
      have hr := hnb n0 (by rw [e]; simp)
      rw [show rd (n0 :: t) 0 = n0 from rfl]
      refine Ev.bind (spec_l2Reached_but w h cs n0 i hf hr.1 hr.2 hi) ?_
      rw [Int.toNat_natCast] at hcc
      rw [wrap_id (by omega) (by omega)]
      by_cases h2 : cnt (fieldL w h (cs.set i 0) n0 false) + 1 = cnt (fieldL w h cs i false)
      ·exact Ev.ifp (by omega) (no (by rw [hc, hcc]; simp [h2]))
      ·refine Ev.ifn (by omega) ?_
       have := go true (by rw [hc, hcc]; simp [h2])
       simp only [if_true] at this
       exact this)
theorem spec_Cuts_f (w h : Int) (cs : List Int) (hn : cs.length ≤ BIG) : Ev (fun k => spec_Cuts.f k w h cs) (cutsOf w h cs) := by
 unfold spec_Cuts.f cutsOf
 simp only [some_bind]
 exact Ev.bind (spec_FloorOk_f w h cs hn) (ev_ite (fun hf => spec_Cuts_l0 w h cs hf cs.length 0 [] (by omega) (by simp)) (fun _ => Ev.now _))

def openL (cs : List Int) : List Int := filtFrom cs.length 0 (fun j => decide (cs.getD j 0 ≠ 0))
theorem openL_facts (cs : List Int) : ∀ (d i : Nat), i + d = cs.length → (filtFrom cs.length i (fun j => decide (cs.getD j 0 ≠ 0))).length = openN (cs.drop i) ∧ (0 < openN (cs.drop i) → rd (filtFrom cs.length i (fun j => decide (cs.getD j 0 ≠ 0))) 0 = firstOpen (cs.drop i) i)
 | 0, i, e => by
  rw [filtFrom_end (by omega), drop_end (by omega)]
  exact ⟨rfl, fun h => by simp [openN] at h⟩
 | d + 1, i, e => by
  have hi : i < cs.length := by omega
  have ih := openL_facts cs d (i + 1) (by omega)
  have ho : openN (cs.drop i) = (if cs[i] = 0 then 0 else 1) + openN (cs.drop (i + 1)) := by
   rw [drop_cons hi]
   unfold openN
   rw [List.countP_cons]
   by_cases e : cs[i] = 0 <;> simp [e]; omega
  have hfi : firstOpen (cs.drop i) i = if cs[i] = 0 then firstOpen (cs.drop (i + 1)) (i + 1) else i := by rw [drop_cons hi]; rfl
  rw [ho, hfi]
  by_cases h0 : cs[i] = 0
  ·rw [filtFrom_no hi (by simp [h0, hi]), if_pos h0, if_pos h0, Nat.zero_add]
   exact ih
  ·rw [filtFrom_yes hi (by simp [h0, hi]), if_neg h0, if_neg h0]
   exact ⟨by rw [List.length_cons, ih.1]; omega, fun _ => rfl⟩
theorem spec_l2Free_l0 (w h : Int) (cs : List Int) (hn : cs.length ≤ 1048576) : ∀ (d i : Nat) (acc : List Int), i + d = cs.length → acc.length ≤ i → Ev (fun k => spec_l2Free.l0 k acc i w h cs) (acc ++ filtFrom cs.length i (fun j => decide (cs.getD j 0 ≠ 0)))
 | 0, i, acc, e, ha => Ev.unroll (by
   simp only [spec_l2Free.l0]
   exact Ev.ifn (by omega) (Ev.fin (by rw [filtFrom_end (by omega)]; simp)))
 | d + 1, i, acc, e, ha => Ev.unroll (by
   have hi : i < cs.length := by omega
   simp only [spec_l2Free.l0, wrap_sc (show i < 9223372036854775807 by omega)]
   refine Ev.ifp (by omega) (Ev.ifp (by omega) (ev_ite' (fun h0 => ?_) (fun h0 => Ev.ifp (by omega) ?_)))
   ·rw [rd_nat'] at h0
    rw [filtFrom_no hi (by simp only [ne_eq, decide_eq_false_iff_not, Classical.not_not]; exact h0)]
    exact spec_l2Free_l0 w h cs hn d (i + 1) acc (by omega) (by omega)
   ·rw [rd_nat'] at h0
    rw [filtFrom_yes hi (by simp only [ne_eq, decide_eq_true_eq]; exact h0)]
    have := spec_l2Free_l0 w h cs hn d (i + 1) (acc ++ [(i : Int)]) (by omega) (by simp; omega)
    rw [List.append_assoc] at this
    exact this)
theorem spec_l2Free_f (w h : Int) (cs : List Int) (hn : cs.length ≤ 1048576) : Ev (fun k => spec_l2Free.f k w h cs) (openL cs) := spec_l2Free_l0 w h cs hn cs.length 0 [] (by omega) (by simp)
theorem spec_Together_f (w h : Int) (cs : List Int) (hn : cs.length ≤ 1048576) : Ev (fun k => spec_Together.f k w h cs) (togetherOf w h cs) := by
 unfold spec_Together.f togetherOf
 have ho := openL_facts cs cs.length 0 (by omega)
 rw [List.drop_zero] at ho
 refine Ev.bind (spec_FloorOk_f w h cs (by unfold BIG; omega)) ?_
 by_cases hf : floorOk w h cs = true
 ·refine Ev.ifp hf (Ev.bind (spec_l2Free_f w h cs hn) ?_)
  unfold openL
  rw [ho.1, hf]
  by_cases h0 : 0 < openN cs
  ·have hc := first_cell h0
   rw [ho.2 h0, decide_eq_true h0]
   refine Ev.ifp (by omega) (Ev.ifp (by omega) (Ev.bind (spec_l2Reached_all w h cs _ hf hc.1 hc.2.1) (Ev.fin ?_)))
   rw [Bool.true_and, Bool.true_and, Bool.eq_iff_iff, beq_iff_eq, decide_eq_true_eq]
   omega
  ·rw [decide_eq_false h0, Bool.false_and, Bool.and_false]
   exact Ev.ifn (by omega) (Ev.now _)
 ·refine Ev.ifn hf (Ev.fin ?_)
  rw [Bool.not_eq_true] at hf
  rw [hf, Bool.false_and]

def soundOf (w h : Int) (cs : List Int) : Bool := togetherOf w h cs && (decide (4 ≤ openN cs) && decide ((cutsOf w h cs).length = 0))
theorem impl_Sound_f (w h : Int) (cs : List Int) (hn : cs.length ≤ 1048576) : Ev (fun k => impl_Sound.f k w h cs) (soundOf w h cs) := by
 unfold impl_Sound.f soundOf
 refine Ev.bind (impl_Together_f w h cs (by unfold BIG; omega)) ?_
 by_cases ht : togetherOf w h cs = true
 ·refine Ev.ifp ht (Ev.bind (impl_open_f w h cs hn) ?_)
  dsimp only
  rw [ht, Bool.true_and]
  by_cases h4 : 4 ≤ openN cs
  ·rw [decide_eq_true h4, Bool.true_and]
   exact Ev.ifp (by omega) (Ev.bind (impl_Cuts_f w h cs (by unfold BIG; omega)) (Ev.fin (by rw [Bool.eq_iff_iff, beq_iff_eq, decide_eq_true_eq]; omega)))
  ·rw [decide_eq_false h4, Bool.false_and]
   exact Ev.ifn (by omega) (Ev.now _)
 ·rw [Bool.not_eq_true] at ht
  rw [ht]
  exact Ev.ifn (by decide) (Ev.now _)
theorem spec_Sound_f (w h : Int) (cs : List Int) (hn : cs.length ≤ 1048576) : Ev (fun k => spec_Sound.f k w h cs) (soundOf w h cs) := by
 have ho := openL_facts cs cs.length 0 (by omega)
 rw [List.drop_zero] at ho
 unfold spec_Sound.f soundOf
 refine Ev.bind (spec_Together_f w h cs hn) ?_
 by_cases ht : togetherOf w h cs = true
 ·refine Ev.ifp ht (Ev.bind (spec_l2Free_f w h cs hn) ?_)
  unfold openL
  rw [ho.1, ht, Bool.true_and]
  by_cases h4 : 4 ≤ openN cs
  ·rw [decide_eq_true h4, Bool.true_and]
   exact Ev.ifp (by omega) (Ev.bind (spec_Cuts_f w h cs (by unfold BIG; omega)) (Ev.fin (by rw [Bool.eq_iff_iff, beq_iff_eq, decide_eq_true_eq]; omega)))
  ·rw [decide_eq_false h4, Bool.false_and]
   exact Ev.ifn (by omega) (Ev.now _)
 ·rw [Bool.not_eq_true] at ht
  rw [ht]
  exact Ev.ifn (by decide) (Ev.now _)

theorem rdB_set {xs : List Bool} {v : Int} (h0 : 0 ≤ v) (h1 : v < (xs.length : Int)) {i : Int} (hi : 0 ≤ i) : rdOf false (xs.set v.toNat true) i = if i = v then true else rdOf false xs i := by
 unfold rdOf
 rw [List.getD_eq_getElem?_getD, List.getD_eq_getElem?_getD, List.getElem?_set]
 by_cases h : i = v
 ·subst h
  rw [if_pos rfl, if_pos rfl, if_pos (by omega)]; rfl
 ·rw [if_neg (by omega), if_neg h]
structure Mid (nb : Int → List Int) (a : Int) (n : Nat) (met : List Bool) (pend : List Int) (x : Int) (seen : List Int) : Prop where
 len : met.length = n
 sound : ∀ c : Int, 0 ≤ c → c < n → rdOf false met c = true → Reach nb yes a c
 start : rdOf false met a = true
 pin : ∀ c ∈ pend, 0 ≤ c ∧ c < n ∧ rdOf false met c = true
 closed : ∀ c : Int, 0 ≤ c → c < n → rdOf false met c = true → c ∈ pend ∨ c = x ∨ ∀ d ∈ nb c, rdOf false met d = true
 done : ∀ d ∈ nb x, d ∈ seen → rdOf false met d = true
theorem Mid.skip {nb : Int → List Int} {a : Int} {n : Nat} {met : List Bool} {pend : List Int} {x d : Int} {seen : List Int} (M : Mid nb a n met pend x seen) (h : d ∈ nb x → rdOf false met d = true) : Mid nb a n met pend x (seen ++ [d]) :=
 ⟨M.len, M.sound, M.start, M.pin, M.closed, fun e he hs => by
  rcases List.mem_append.1 hs with h1 | h1
  ·exact M.done e he h1
  ·rw [List.mem_singleton] at h1; subst h1; exact h he⟩
theorem Mid.push {nb : Int → List Int} {a : Int} {n : Nat} {met : List Bool} {pend : List Int} {x d : Int} {seen : List Int} (M : Mid nb a n met pend x seen) (a0 : 0 ≤ a) (x0 : 0 ≤ x) (x1 : x < n) (xm : rdOf false met x = true) (d0 : 0 ≤ d) (d1 : d < n) (hd : d ∈ nb x) (hin : ∀ c : Int, ∀ e ∈ nb c, 0 ≤ c → c < n → 0 ≤ e) : Mid nb a n (met.set d.toNat true) (pend ++ [d]) x (seen ++ [d]) := by
 have hl : d < (met.length : Int) := by rw [M.len]; exact d1
 have up : ∀ c : Int, 0 ≤ c → rdOf false met c = true → rdOf false (met.set d.toNat true) c = true := fun c c0 h => by
  rw [rdB_set d0 hl c0]; split
  ·rfl
  ·exact h
 have self : rdOf false (met.set d.toNat true) d = true := by rw [rdB_set d0 hl d0, if_pos rfl]
 refine ⟨by rw [List.length_set]; exact M.len, fun c c0 c1 h => ?_, up a a0 M.start, fun c hc => ?_, fun c c0 c1 h => ?_, fun e he hs => ?_⟩
 ·rw [rdB_set d0 hl c0] at h
  by_cases hcd : c = d
  ·subst hcd
   obtain ⟨k, wk⟩ := M.sound x x0 x1 xm
   exact ⟨k + 1, .snoc wk rfl hd⟩
  ·rw [if_neg hcd] at h; exact M.sound c c0 c1 h
 ·rcases List.mem_append.1 hc with h1 | h1
  ·have := M.pin c h1
   exact ⟨this.1, this.2.1, up c this.1 this.2.2⟩
  ·rw [List.mem_singleton] at h1; subst h1; exact ⟨d0, d1, self⟩
 ·rw [rdB_set d0 hl c0] at h
  by_cases hcd : c = d
  ·exact .inl (List.mem_append.2 (.inr (List.mem_singleton.2 hcd)))
  ·rw [if_neg hcd] at h
   rcases M.closed c c0 c1 h with h1 | h1 | h1
   ·exact .inl (List.mem_append.2 (.inl h1))
   ·exact .inr (.inl h1)
   ·exact .inr (.inr fun e he => up e (hin c e he c0 c1) (h1 e he))
 ·rcases List.mem_append.1 hs with h1 | h1
  ·exact up e (hin x e he x0 x1) (M.done e he h1)
  ·rw [List.mem_singleton] at h1; subst h1; exact self
theorem Mid.next {nb : Int → List Int} {a : Int} {n : Nat} {met : List Bool} {pend : List Int} {x : Int} {seen : List Int} (M : Mid nb a n met pend x seen) (h : ∀ d ∈ nb x, d ∈ seen) : Mid nb a n met pend (-1) [] :=
 ⟨M.len, M.sound, M.start, M.pin, fun c c0 c1 hc => by
  rcases M.closed c c0 c1 hc with h1 | h1 | h1
  ·exact .inl h1
  ·subst h1; exact .inr (.inr fun d hd => M.done d hd (h d hd))
  ·exact .inr (.inr h1), fun d hd hs => by cases hs⟩
theorem Mid.take {nb : Int → List Int} {a : Int} {n : Nat} {met : List Bool} {x : Int} {rest : List Int} (M : Mid nb a n met (x :: rest) (-1) []) : Mid nb a n met rest x [] :=
 ⟨M.len, M.sound, M.start, fun c hc => M.pin c (List.mem_cons_of_mem _ hc), fun c c0 c1 hc => by
  rcases M.closed c c0 c1 hc with h1 | h1 | h1
  ·rcases List.mem_cons.1 h1 with h2 | h2
   ·exact .inr (.inl h2)
   ·exact .inl h2
  ·omega
  ·exact .inr (.inr h1), fun d _ hs => by cases hs⟩
theorem Mid.fin {nb : Int → List Int} {a : Int} {n : Nat} {met : List Bool} (M : Mid nb a n met [] (-1) []) (a0 : 0 ≤ a) (a1 : a < n) (hin : ∀ c : Int, ∀ e ∈ nb c, 0 ≤ c → c < n → 0 ≤ e ∧ e < n) {b : Int} (b0 : 0 ≤ b) (b1 : b < n) : rdOf false met b = true ↔ Reach nb yes a b := by
 refine ⟨M.sound b b0 b1, fun hr => ?_⟩
 have := Reach.stay (P := fun c => (0 ≤ c ∧ c < n) ∧ rdOf false met c = true) ⟨⟨a0, a1⟩, M.start⟩ (fun c d hc hd => ?_) hr
 ·exact this.2
 ·refine ⟨hin c d hd hc.1.1 hc.1.2, ?_⟩
  rcases M.closed c hc.1.1 hc.1.2 hc.2 with h1 | h1 | h1
  ·cases h1
  ·have := hc.1.1; omega
  ·exact h1 d hd

theorem openN_set {cs : List Int} {p : Int} (hp : Cell cs p) : openN (cs.set p.toNat 0) + 1 = openN cs := by
 unfold openN
 have h2 : p.toNat < cs.length := by have := hp.1; have := hp.2.1; omega
 have h := hp.2.2
 unfold rd at h
 rw [getD_at h2] at h
 have h4 : 0 < cs.countP (fun x => decide (x ≠ 0)) := List.countP_pos_iff.2 ⟨cs[p.toNat], List.getElem_mem h2, by simpa using h⟩
 rw [List.countP_set h2]
 simp [h]
 have : cs.countP (fun x => decide (x ≠ 0)) = cs.countP (fun x => !decide (x = 0)) := by congr 1; funext x; simp
 omega
theorem cell_set {cs : List Int} {p c : Int} (hp : Cell cs p) : Cell (cs.set p.toNat 0) c ↔ Cell cs c ∧ c ≠ p := by
 unfold Cell
 rw [List.length_set]
 constructor
 ·rintro ⟨h0, h1, h2⟩
  rw [rd_set hp.1 hp.2.1 h0] at h2
  by_cases e : c = p
  ·rw [if_pos e] at h2; exact absurd rfl h2
  ·rw [if_neg e] at h2; exact ⟨⟨h0, h1, h2⟩, e⟩
 ·rintro ⟨⟨h0, h1, h2⟩, e⟩
  exact ⟨h0, h1, by rw [rd_set hp.1 hp.2.1 h0, if_neg e]; exact h2⟩
theorem sound_facts {w h : Int} {cs : List Int} (hs : soundOf w h cs = true) : togetherOf w h cs = true ∧ 4 ≤ openN cs ∧ ∀ p, Cell cs p → cutB w h cs p = false := by
 unfold soundOf at hs
 simp only [Bool.and_eq_true, decide_eq_true_eq] at hs
 refine ⟨hs.1, hs.2.1, fun p hp => ?_⟩
 have h3 := hs.2.2
 have hf := (together_all hs.1).1
 unfold cutsOf at h3
 rw [if_pos hf] at h3
 have h4 := List.length_eq_zero_iff.1 h3
 cases hc : cutB w h cs p with
 | false => rfl
 | true =>
  have h5 : p ∈ filtFrom cs.length 0 (isCut w h cs) := by
   rw [mem_filtFrom]
   refine ⟨p.toNat, by omega, by have := hp.2.1; have := hp.1; omega, ?_, by have := hp.1; omega⟩
   unfold isCut
   rw [Int.toNat_of_nonneg hp.1, hc, Bool.and_true]
   exact decide_eq_true hp.2.2
  rw [h4] at h5
  cases h5
theorem sound_less {w h : Int} {cs : List Int} (hs : soundOf w h cs = true) {p : Int} (hp : Cell cs p) : togetherOf w h (cs.set p.toNat 0) = true := by
 obtain ⟨ht, h4, hc⟩ := sound_facts hs
 obtain ⟨hf, hall⟩ := together_all ht
 have hn := openN_set hp
 have hg := floorOk_set hf p.toNat
 refine together_of hg (by omega) (fun a b ha hb => ?_)
 have ha2 := (cell_set hp).1 ha
 have hb2 := (cell_set hp).1 hb
 match e : nbF w h cs p with
 | [] =>
  rcases reach_past' hf hp.1 hp.2.1 (hall p a hp ha2.1) with h1 | ⟨n, h1, _⟩
  ·exact absurd h1 ha2.2
  ·rw [e] at h1; cases h1
 | n0 :: t =>
  have hcp := hc p hp
  have hfar := cut_far hf hp e
  have near : ∀ c, Cell (cs.set p.toNat 0) c → Reach (nbF w h (cs.set p.toNat 0)) yes n0 c := fun c hc => by
   have hc2 := (cell_set hp).1 hc
   rcases reach_past' hf hp.1 hp.2.1 (hall p c hp hc2.1) with h1 | ⟨n, h1, _, h2⟩
   ·exact absurd h1 hc2.2
   ·refine Reach.trans ?_ h2
    refine Classical.byContradiction fun hno => ?_
    rw [hfar.2 ⟨n, h1, hno⟩] at hcp
    cases hcp
  have hn0 : Cell (cs.set p.toNat 0) n0 := by
   have hm : n0 ∈ nbF w h cs p := by rw [e]; exact List.mem_cons_self
   have hcell := (cell_next hf hp hm).1
   exact (cell_set hp).2 ⟨hcell, fun e2 => not_mem_self (fitsAt hf hp.1 hp.2.1).1 (by rw [e2] at hm; exact (mem_nearL.1 hm).1)⟩
  exact Reach.trans ((reach_back hg hn0 (near a ha)).2) (near b hb)
theorem third_cell {cs : List Int} (h4 : 4 ≤ openN cs) {a b : Int} (ha : Cell cs a) (hb : Cell cs b) (hab : a ≠ b) : ∃ c, Cell cs c ∧ c ≠ a ∧ c ≠ b := by
 have h1 := openN_set ha
 have hb2 := (cell_set ha).2 ⟨hb, fun e => hab e.symm⟩
 have h2 := openN_set hb2
 have h3 := first_cell (cs := (cs.set a.toNat 0).set b.toNat 0) (by omega)
 have h5 := (cell_set hb2).1 h3
 have h6 := (cell_set ha).1 h5.1
 exact ⟨_, h6.1, h6.2, h5.2⟩
theorem near_in {w h : Int} {cs : List Int} {r : S37} (F : RobF w h cs r) (hl : r.f3 = false) {u : Int} (hu : u ∈ nbF w h cs r.f1) : u ∈ choicesOf w h cs r := by
 rw [F.eq]
 have hso := sortF_sorted (farLt_as (farOf w h cs r.f1 r.f2 r.f3) (cs.length : Int) r.f1) (farLt_nt _ _ _) (outOf w h cs r.f1 r.f2 r.f3)
 have hm := mem_nearL.1 hu
 exact (hso.mem _).2 (outOf_mem.2 (Or.inr ⟨hm.1, Or.inl ⟨hm.2.1, fun e => by rw [hl] at e; cases e⟩⟩))
theorem second_near {w h : Int} {cs : List Int} (hs : soundOf w h cs = true) {a v : Int} (ha : Cell cs a) (hv : Cell cs v) (hav : a ≠ v) : ∃ v', v' ∈ nbF w h cs a ∧ v' ≠ v := by
 obtain ⟨ht, h4, _⟩ := sound_facts hs
 have hf := (together_all ht).1
 obtain ⟨c, hc, hca, hcv⟩ := third_cell h4 ha hv hav
 have hr := (together_all (sound_less hs hv)).2 a c ((cell_set hv).2 ⟨ha, hav⟩) ((cell_set hv).2 ⟨hc, hcv⟩)
 refine Classical.byContradiction fun hno => hca ?_
 have := Reach.stay (P := fun x => x = a) rfl (fun b d hb hd => ?_) hr
 ·exact this
 ·subst hb
  have h2 := (nbF_set hf hv.1 hv.2.1 ha.1 ha.2.1).1 hd
  exact absurd ⟨d, h2.1, h2.2⟩ hno
theorem no_fail {w h : Int} {cs : List Int} {l : List S37} (hs : soundOf w h cs = true) (hA : Apt l) (hr : ∀ i, i < l.length → RobF w h cs (robAt l i)) (hlo : ∀ i, i < l.length → (robAt l i).f3 = false) {i o : Nat} {v : Int} {nx m : List Int} (hv : v ∈ nbF w h cs (robAt l i).f1)
  (hopen : ∀ j, j < l.length → nx.getD j 0 < 0) (B : Back l (fun i => choicesOf w h cs (robAt l i)) nx i o v m) : False := by
 have hf := (together_all (sound_facts hs).1).1
 have cell : ∀ q, q < l.length → Cell cs (robAt l q).f1 := fun q hq => by
  have := cellB_iff.1 (standB_iff.1 (hr q hq).stand).1
  exact ⟨this.1.1, this.1.2, this.2⟩
 have ci := cell i B.hi
 have cv := (cell_next hf ci hv).1
 have hiv : (robAt l i).f1 ≠ v := fun e => B.ne (hA o i B.ho B.hi (by rw [B.at_, e]))
 have val : ∀ q, q < l.length → q ≠ i → 0 ≤ m.getD q 0 → m.getD q 0 = (robAt l q).f1 := fun q hq hqi h0 => by
  rcases B.fail.new q hq (by rw [getD_set_ne' hqi]; exact hopen q hq) with h1 | h1
  ·omega
  ·exact h1
 -- the cells of those who failed
 let X : Int → Prop := fun c => ∃ q, q < l.length ∧ q ≠ i ∧ 0 ≤ m.getD q 0 ∧ (robAt l q).f1 = c
 have xo : X v := ⟨o, B.ho, B.ne, by rw [B.fail.own]; exact (hr o B.ho).at0, B.at_⟩
 have inm : ∀ u : Int, 0 ≤ u → u ∈ m → X u := fun u u0 hu => by
  obtain ⟨q, hq, e⟩ := mem_getD.1 hu
  rw [B.len] at hq
  by_cases hqi : q = i
  ·subst hqi
   rw [B.mi] at e
   rw [← e]; exact xo
  ·exact ⟨q, hq, hqi, by omega, by rw [← val q hq hqi (by omega)]; exact e⟩
 have step : ∀ q, q < l.length → q ≠ i → 0 ≤ m.getD q 0 → ∀ u ∈ nbF w h cs (robAt l q).f1, X u ∨ (q = o ∧ u = (robAt l i).f1) := fun q hq hqi h0 u hu => by
  have u0 := (cell_next hf (cell q hq) hu).1.1
  rcases B.fail.cov q hq (by rw [getD_set_ne' hqi]; exact hopen q hq) h0 u (near_in (hr q hq) (hlo q hq) hu) with h1 | h1
  ·exact Or.inl (inm u u0 h1)
  ·exact Or.inr h1
 obtain ⟨v', hv', hne⟩ := second_near hs ci cv hiv
 have cv' := (cell_next hf ci hv').1
 have hv'i : v' ≠ (robAt l i).f1 := fun e => not_mem_self (fitsAt hf ci.1 ci.2.1).1 (by rw [e] at hv'; exact (mem_nearL.1 hv').1)
 have hreach := (together_all (sound_less hs ci)).2 v v' ((cell_set ci).2 ⟨cv, fun e => hiv e.symm⟩) ((cell_set ci).2 ⟨cv', hv'i⟩)
 have hX : X v' := by
  refine Reach.stay (P := X) xo (fun b c hb hc => ?_) hreach
  obtain ⟨q, hq, hqi, h0, e⟩ := hb
  have cq := cell q hq
  rw [e] at cq
  have h2 := (nbF_set hf ci.1 ci.2.1 cq.1 cq.2.1).1 hc
  rw [← e] at h2
  rcases step q hq hqi h0 c h2.1 with h3 | ⟨_, h3⟩
  ·exact h3
  ·exact absurd h3 h2.2
 obtain ⟨q, hq, hqi, h0, e⟩ := hX
 have hback := (cell_next hf ci hv').2
 rw [← e] at hback
 rcases step q hq hqi h0 _ hback with ⟨r, hr1, hri, _, er⟩ | ⟨h3, _⟩
 ·exact hri (hA r i hr1 B.hi er)
 ·subst h3
  rw [B.at_] at e
  exact hne e.symm
theorem first_gets {w h : Int} {cs : List Int} {l : List S37} (hc : crewOk w h cs l = true) (hs : soundOf w h cs = true) (hlo : ∀ i, i < l.length → (robAt l i).f3 = false) {i : Nat} (hi : i < l.length) {ts : List Int} (ht : turnsOf l = (i : Int) :: ts) {v : Int} {rest : List Int} (hv : choicesOf w h cs (robAt l i) = v :: rest) (hn : v = (robAt l i).f1 ∨ v ∈ nbF w h cs (robAt l i).f1) : (stepOf w h cs l).getD i 0 = v := by
 obtain ⟨_, _, hr⟩ := crew_rob hc
 have hat : ∀ j, j < l.length → 0 ≤ (robAt l j).f1 := fun j hj => (hr j hj).at0
 have hpos : ∀ j, j < l.length → ∀ v ∈ choicesOf w h cs (robAt l j), 0 ≤ v := fun j hj v hv => ((hr j hj).ch0 v hv).1
 have hA := crew_apt hc
 have hown := crew_own hc
 have v0 : 0 ≤ v := hpos i hi v (by rw [hv]; simp)
 have I := inv_none l (fun i => choicesOf w h cs (robAt l i)) hat
 have hnx : ∀ j, j < l.length → (List.replicate l.length (-1 : Int)).getD j 0 = -1 := fun j hj => by rw [List.getD_eq_getElem?_getD, List.getElem?_replicate, if_pos hj]; rfl
 obtain ⟨d, hd⟩ : ∃ d, l.length = d + 1 := ⟨l.length - 1, by omega⟩
 have R := chF_rec (C := fun i => choicesOf w h cs (robAt l i)) hat hpos hA hown d i hi
 have hneg : (List.replicate l.length (-1 : Int)).getD i 0 < 0 := by rw [hnx i hi]; omega
 -- what the first choice leaves
 have main : (chF l (fun i => choicesOf w h cs (robAt l i)) l.length (List.replicate l.length (-1)) i (-1)).2.getD i 0 = v := by
  have e : chF l (fun i => choicesOf w h cs (robAt l i)) l.length (List.replicate l.length (-1)) i (-1) = tryF (fun n2 o => chF l (fun i => choicesOf w h cs (robAt l i)) d n2 o (robAt l i).f1) l (-1) i (List.replicate l.length (-1)) (v :: rest) := by
   rw [show chF l (fun i => choicesOf w h cs (robAt l i)) l.length (List.replicate l.length (-1)) i (-1) = chF l (fun i => choicesOf w h cs (robAt l i)) (d + 1) (List.replicate l.length (-1)) i (-1) by rw [hd], chF, hv]
  rw [e, tryF, if_neg (by
   rintro (h1 | h1)
   ·have := List.eq_of_mem_replicate h1; omega
   ·omega)]
  by_cases hw : whoF l ((List.replicate l.length (-1)).set i v) v l.length 0 < 0
  ·rw [if_pos hw]
   exact getD_set_self' (by simpa using hi)
  rw [if_neg hw]
  obtain ⟨o, eo, ho1, hat1, hno, hlen, hop, hback⟩ := rec_step R hi v0 (by simp) (by have := opN_len (List.replicate l.length (-1 : Int)); rw [List.length_replicate] at this; omega) hneg hw
  have hoi : o ≠ i := by rintro rfl; rw [getD_set_self' (by simpa using hi)] at hno; omega
  rw [eo, Int.toNat_natCast]
  by_cases h3 : (chF l (fun i => choicesOf w h cs (robAt l i)) d ((List.replicate l.length (-1)).set i v) o (robAt l i).f1).1 = true
  ·rw [if_pos h3]
   have hl := R.left _ o hlen ho1 hop hno
   show (chF l (fun i => choicesOf w h cs (robAt l i)) d ((List.replicate l.length (-1)).set i v) o (robAt l i).f1).2.getD i 0 = v
   rw [hl.keep i (Ne.symm hoi) (by rw [getD_set_self' (by simpa using hi)]; exact v0), getD_set_self' (by simpa using hi)]
  ·exfalso
   have B := (hback (by simpa using h3)).1
   rcases hn with hn | hn
   ·exact hoi (hA o i ho1 hi (by rw [hat1, hn]))
   ·exact no_fail hs hA hr hlo hn (fun j hj => by rw [hnx j hj]; omega) B
 have htop := chF_top (C := fun i => choicesOf w h cs (robAt l i)) hat hpos hA hown I hi hneg
 have hin : ∀ t ∈ ts, 0 ≤ t ∧ t < (l.length : Int) := fun t h => turnsOf_in t (by rw [ht]; simp [h])
 obtain ⟨_, hk, _⟩ := stepF_inv (C := fun i => choicesOf w h cs (robAt l i)) hat hpos hA hown ts _ hin htop
 unfold stepOf
 rw [ht, stepF, Int.toNat_natCast, if_pos hneg, hk i hi (by rw [main]; exact v0), main]
theorem first_choice {w h : Int} {cs : List Int} {r : S37} (hs : soundOf w h cs = true) (F : RobF w h cs r) (hl : r.f3 = false) : ∃ (v : Int) (rest : List Int), choicesOf w h cs r = v :: rest ∧ (v = r.f1 ∨ v ∈ nbF w h cs r.f1) ∧ ((r.f2 = -1 ∨ r.f1 = r.f2) → v = r.f1) ∧
  (r.f2 ≠ -1 → r.f1 ≠ r.f2 → rd (fieldL w h cs r.f2 false) v = rd (fieldL w h cs r.f2 false) r.f1 - 1) := by
 have hf := (together_all (sound_facts hs).1).1
 have hall := (together_all (sound_facts hs).1).2
 have hst := standB_iff.1 F.stand
 have hat := cellB_iff.1 hst.1
 have ca : Cell cs r.f1 := ⟨hat.1.1, hat.1.2, hat.2⟩
 obtain ⟨f, hlen⟩ := fits_of hf (inB_iff.2 (show 0 ≤ r.f1 ∧ r.f1 ≤ (cs.length : Int) - 1 by omega))
 have S2 : Sorted (farLt (farOf w h cs r.f1 r.f2 r.f3) (cs.length : Int) r.f1) (outOf w h cs r.f1 r.f2 r.f3) (chL w h cs r) := sortF_sorted (farLt_as _ _ _) (farLt_nt _ _ _) _
 have hatm : r.f1 ∈ chL w h cs r := (S2.mem _).2 (outOf_mem.2 (Or.inl rfl))
 have hgw : ∀ x, x ∈ chL w h cs r → x = r.f1 ∨ x ∈ nbF w h cs r.f1 := fun x hx => by
  rcases outOf_mem.1 ((S2.mem _).1 hx) with h1 | ⟨h1, ⟨h2, _⟩ | ⟨h2, h3⟩⟩
  ·exact Or.inl h1
  ·exact Or.inr (mem_nearL.2 ⟨h1, h2, fun e => by cases e⟩)
  ·refine Or.inr (mem_nearL.2 ⟨h1, ?_, fun e => by cases e⟩)
   rcases hst.2 with h4 | h4
   ·omega
   ·rw [h3]; exact (cellB_iff.1 h4).2
 rw [F.eq]
 match e : chL w h cs r with
 | [] => rw [e] at hatm; cases hatm
 | v :: rest =>
  have hvm : v ∈ chL w h cs r := by rw [e]; simp
  have hvin := outOf_in f hlen ((S2.mem _).1 hvm)
  have hmin : ∀ x ∈ chL w h cs r, farLt (farOf w h cs r.f1 r.f2 r.f3) (cs.length : Int) r.f1 x v = false := fun x hx => by
   have ho := S2.ord
   rw [e, List.pairwise_cons] at ho
   rw [e] at hx
   rcases List.mem_cons.1 hx with rfl | hx
   ·rw [farLt_no]; omega
   ·exact ho.1 x hx
  refine ⟨v, rest, rfl, hgw v hvm, fun hrest => ?_, fun hg hne => ?_⟩
  ·have hm := hmin _ hatm
   rw [farLt_no] at hm
   refine Classical.byContradiction fun hva => hm ?_
   rcases hrest with hg | hg
   ·have k1 : farKey (farOf w h cs r.f1 r.f2 r.f3) (cs.length : Int) r.f1 = 0 := by
     unfold farKey farOf
     rw [if_neg (show ¬ 0 ≤ r.f2 by omega), rep_rd hat.1.1 hat.1.2 hat.1.1 hat.1.2, if_pos rfl]; rfl
    have k2 : farKey (farOf w h cs r.f1 r.f2 r.f3) (cs.length : Int) v = 1 := by
     unfold farKey farOf
     rw [if_neg (show ¬ 0 ≤ r.f2 by omega), rep_rd hvin.1 hvin.2 hat.1.1 hat.1.2, if_neg hva]; rfl
    rw [k1, k2]; omega
   ·have B := field_bfs r.f3 hf hat.1.1 hat.1.2
    have e1 : farOf w h cs r.f1 r.f2 r.f3 = fieldL w h cs r.f1 r.f3 := by unfold farOf; rw [← hg, if_pos hat.1.1]
    have z := B.zero
    have k1 : farKey (fieldL w h cs r.f1 r.f3) (cs.length : Int) r.f1 = 0 := by unfold farKey; rw [z]; rfl
    have k2 : 0 < farKey (fieldL w h cs r.f1 r.f3) (cs.length : Int) v := by
     unfold farKey
     have hon := B.only v hvin.1 hvin.2
     by_cases hneg : rd (fieldL w h cs r.f1 r.f3) v < 0
     ·rw [if_pos hneg]; omega
     ·rw [if_neg hneg]
      by_cases h0 : rd (fieldL w h cs r.f1 r.f3) v = 0
      ·exact absurd (hon h0) hva
      ·omega
    rw [e1]; omega
  ·have hgc : cellB cs r.f2 = true := by rcases hst.2 with h1 | h1; exact absurd h1 hg; exact h1
   have hgr := cellB_iff.1 hgc
   have cg : Cell cs r.f2 := ⟨hgr.1.1, hgr.1.2, hgr.2⟩
   have B := field_B hf hgr.1.1 hgr.1.2
   have e1 : farOf w h cs r.f1 r.f2 r.f3 = fieldL w h cs r.f2 false := by unfold farOf; rw [if_pos hgr.1.1, hl]
   have ra := (field_reach hf hgr.1.1 hgr.1.2 hat.1.1 hat.1.2).2 (hall _ _ cg ca)
   have ra0 : rd (fieldL w h cs r.f2 false) r.f1 ≠ 0 := fun h0 => hne (B.only _ hat.1.1 hat.1.2 h0)
   obtain ⟨u, u0, u1, _, hmu, hu⟩ := B.pred r.f1 hat.1.1 hat.1.2 (by omega)
   have cu : Cell cs u := by
    refine ⟨u0, u1, ?_⟩
    have := field_no_wall (ld := false) hf hgr.1.1 hgr.1.2 hgr.2 u0 u1 (by omega)
    exact this
   have hmu2 : u ∈ nbF w h cs r.f1 := (cell_next hf cu hmu).2
   have hum : u ∈ chL w h cs r := by rw [← F.eq]; exact near_in F hl hmu2
   have hm := hmin _ hum
   rw [farLt_no, e1] at hm
   have key : ∀ x, 0 ≤ x → x < (cs.length : Int) → 0 ≤ rd (fieldL w h cs r.f2 false) x → farKey (fieldL w h cs r.f2 false) (cs.length : Int) x = rd (fieldL w h cs r.f2 false) x := fun x _ _ h0 => by unfold farKey; rw [if_neg (by omega)]
   rw [key u u0 u1 (by omega)] at hm
   have bl := B.below ⟨hgr.1.1, hgr.1.2⟩ r.f1 hat.1.1 hat.1.2
   -- v is reached, and no further than one step nearer
   have hv0 : 0 ≤ rd (fieldL w h cs r.f2 false) v := by
    refine Classical.byContradiction fun hneg => hm (Or.inl ?_)
    unfold farKey
    rw [if_pos (by omega)]; omega
   rw [key v hvin.1 hvin.2 hv0] at hm
   have low : rd (fieldL w h cs r.f2 false) r.f1 ≤ rd (fieldL w h cs r.f2 false) v + 1 := by
    rcases hgw v hvm with h1 | h1
    ·rw [h1]; omega
    ·have cv := cell_next hf ca h1
     exact (B.next v hvin.1 hvin.2 hv0 rfl _ cv.2).2
   omega

def nzL (cs : List Int) : List Bool := cs.map (fun x => decide (x ≠ 0))
theorem nzL_len {cs p : List Int} (e : nzL cs = nzL p) : cs.length = p.length := by
 have := congrArg List.length e
 unfold nzL at this
 simpa using this
theorem nzL_get {cs p : List Int} (e : nzL cs = nzL p) (j : Nat) : (cs.getD j 0 = 0 ↔ p.getD j 0 = 0) := by
 have h1 : ∀ l : List Int, (l.getD j 0 = 0 ↔ (nzL l).getD j false = false) := fun l => by
  unfold nzL
  rw [List.getD_eq_getElem?_getD, List.getD_eq_getElem?_getD, List.getElem?_map]
  cases l[j]? with
  | none => simp
  | some x => simp
 rw [h1 cs, h1 p, e]
theorem nzL_set {cs p : List Int} (e : nzL cs = nzL p) (i : Nat) : nzL (cs.set i 0) = nzL (p.set i 0) := by
 unfold nzL at e ⊢
 rw [List.map_set, List.map_set, e]
theorem nbF_pat {w h : Int} {cs p : List Int} (e : nzL cs = nzL p) : nbF w h cs = nbF w h p := by
 funext c
 unfold nbF nearL
 congr 1
 funext x
 have := nzL_get e x.toNat
 unfold rd
 have hb : (cs.getD x.toNat 0 == 0) = (p.getD x.toNat 0 == 0) := by
  rw [Bool.eq_iff_iff, beq_iff_eq, beq_iff_eq]; exact this
 rw [hb]; rfl
theorem fieldL_pat {w h : Int} {cs p : List Int} (e : nzL cs = nzL p) (dst : Int) : fieldL w h cs dst false = fieldL w h p dst false := by
 unfold fieldL
 rw [nbF_pat e, goF_yes, goF_yes, nzL_len e]
theorem openN_pat {cs p : List Int} (e : nzL cs = nzL p) : openN cs = openN p := by
 have h1 : ∀ l : List Int, openN l = (nzL l).countP id := fun l => by
  unfold openN nzL
  rw [List.countP_map]; rfl
 rw [h1, h1, e]
theorem firstOpen_pat : ∀ {cs p : List Int} (i : Nat), nzL cs = nzL p → firstOpen cs i = firstOpen p i
 | [], [], _, _ => rfl
 | [], _ :: _, _, e => by simp [nzL] at e
 | _ :: _, [], _, e => by simp [nzL] at e
 | x :: cs, y :: p, i, e => by
   unfold nzL at e
   rw [List.map_cons, List.map_cons, List.cons.injEq] at e
   have ih := firstOpen_pat (cs := cs) (p := p) (i + 1) e.2
   unfold firstOpen
   have h1 : x = 0 ↔ y = 0 := by
    have := e.1
    rw [decide_eq_decide] at this
    omega
   by_cases h0 : x = 0
   ·rw [if_pos h0, if_pos (h1.1 h0)]; exact ih
   ·rw [if_neg h0, if_neg (fun h => h0 (h1.2 h))]
theorem cutB_pat {w h : Int} {cs p : List Int} (e : nzL cs = nzL p) (i : Int) : cutB w h cs i = cutB w h p i := by
 unfold cutB
 rw [nbF_pat e]
 cases nbF w h p i with
 | nil => rfl
 | cons n0 t => simp only [fieldL_pat (nzL_set e i.toNat), fieldL_pat e]
theorem soundOf_pat {w h : Int} {cs p : List Int} (e : nzL cs = nzL p) (h1 : floorOk w h cs = true) (h2 : floorOk w h p = true) : soundOf w h cs = soundOf w h p := by
 have hc : isCut w h cs = isCut w h p := by
  funext j
  unfold isCut
  rw [cutB_pat e]
  congr 1
  rw [decide_eq_decide]
  exact not_congr (nzL_get e j)
 unfold soundOf togetherOf cutsOf
 rw [h1, h2, openN_pat e, firstOpen_pat 0 e, fieldL_pat e, hc, nzL_len e]
theorem ok_of {w h : Int} {cs : List Int} (hw : 1 ≤ w ∧ w ≤ 10) (hh : 1 ≤ h ∧ h ≤ 10) (hl : (cs.length : Int) = w * h) (hc : ∀ x ∈ cs, 0 ≤ x ∧ x ≤ 4) : floorOk w h cs = true := by
 unfold floorOk kindsOk
 simp only [Bool.and_eq_true, inB_iff, decide_eq_true_eq, allFrom_iff]
 exact ⟨⟨⟨hw, hh⟩, hl⟩, fun j _ hj => by rw [getD_at hj]; exact hc _ (List.getElem_mem hj)⟩
theorem full_sound {w h : Int} {cs : List Int} (hw : 2 ≤ w ∧ w ≤ 5) (hh : 2 ≤ h ∧ h ≤ 4) (hl : (cs.length : Int) = w * h) (hc : ∀ x ∈ cs, 1 ≤ x ∧ x ≤ 4) : soundOf w h cs = true := by
 have hf : floorOk w h cs = true := ok_of (by omega) (by omega) hl (fun x hx => by have := hc x hx; omega)
 have hp : floorOk w h (List.replicate cs.length 1) = true := ok_of (by omega) (by omega) (by simpa using hl) (fun x hx => by
  have := List.eq_of_mem_replicate hx
  omega)
 have e : nzL cs = nzL (List.replicate cs.length 1) := by
  unfold nzL
  rw [List.map_replicate]
  apply List.eq_replicate_iff.2
  refine ⟨by simp, fun b hb => ?_⟩
  obtain ⟨x, hx, rfl⟩ := List.mem_map.1 hb
  have := hc x hx
  rw [decide_eq_decide]
  omega
 rw [soundOf_pat e hf hp]
 clear e hf hp hc
 obtain ⟨w1, w2⟩ := hw
 obtain ⟨h1, h2⟩ := hh
 have hw4 : w = 2 ∨ w = 3 ∨ w = 4 ∨ w = 5 := by omega
 have hh3 : h = 2 ∨ h = 3 ∨ h = 4 := by omega
 generalize cs.length = n at hl ⊢
 rcases hw4 with rfl | rfl | rfl | rfl <;> rcases hh3 with rfl | rfl | rfl
 ·obtain rfl : n = 4 := by omega
  decide +kernel
 ·obtain rfl : n = 6 := by omega
  decide +kernel
 ·obtain rfl : n = 8 := by omega
  decide +kernel
 ·obtain rfl : n = 6 := by omega
  decide +kernel
 ·obtain rfl : n = 9 := by omega
  decide +kernel
 ·obtain rfl : n = 12 := by omega
  decide +kernel
 ·obtain rfl : n = 8 := by omega
  decide +kernel
 ·obtain rfl : n = 12 := by omega
  decide +kernel
 ·obtain rfl : n = 16 := by omega
  decide +kernel
 ·obtain rfl : n = 10 := by omega
  decide +kernel
 ·obtain rfl : n = 15 := by omega
  decide +kernel
 ·obtain rfl : n = 20 := by omega
  decide +kernel

theorem bits_and_small (x : Int) {m : Nat} (hm : m < 256) : 0 ≤ Go.bits .and .i64 x (m : Int) ∧ Go.bits .and .i64 x (m : Int) ≤ (m : Int) := by
 unfold Go.bits
 show 0 ≤ IntKind.i64.wrap ((BitVec.ofInt 64 x &&& BitVec.ofInt 64 (m : Int)).toNat : Int) ∧ IntKind.i64.wrap ((BitVec.ofInt 64 x &&& BitVec.ofInt 64 (m : Int)).toNat : Int) ≤ (m : Int)
 rw [BitVec.toNat_and, BitVec.ofInt_natCast, BitVec.toNat_ofNat, Nat.mod_eq_of_lt (show m < 2 ^ 64 by omega)]
 have h : (BitVec.ofInt 64 x).toNat &&& m ≤ m := Nat.and_le_right
 rw [i64_w, wrap_id (by omega) (by omega)]
 omega
theorem l1Byte_ok (b : List Int) (i h : Int) (hi : 0 ≤ i) (hb : b.length ≤ 1048576) : ∃ x i' h' : Int, spec_l1Byte.f b i h = some (x, i', h') ∧ 0 ≤ x ∧ x ≤ 255 ∧ 0 ≤ i' := by
 unfold spec_l1Byte.f
 by_cases h1 : i < (b.length : Int)
 ·rw [if_pos h1, if_pos hi, wrap_id (x := i + 1) (by omega) (by omega)]
  have := bits_and_small (m := 255) (wrap64 (Go.bits .and .i64 (Go.bits .xor .i64 (wrap64 (wrap64 (h * 6364136223846793005) + 1442695040888963407) / 8589934592) (wrap64 (wrap64 (h * 6364136223846793005) + 1442695040888963407) / 140737488355328)) 255 + wrap64 (rd b i))) (by omega)
  exact ⟨_, _, _, rfl, this.1, this.2, by omega⟩
 ·rw [if_neg h1]
  have := bits_and_small (m := 255) (Go.bits .xor .i64 (wrap64 (wrap64 (h * 6364136223846793005) + 1442695040888963407) / 8589934592) (wrap64 (wrap64 (h * 6364136223846793005) + 1442695040888963407) / 140737488355328)) (by omega)
  exact ⟨_, _, _, rfl, this.1, this.2, by omega⟩
theorem l1Below_ok (b : List Int) (i h n : Int) (hi : 0 ≤ i) (hb : b.length ≤ 1048576) : ∃ x i' h' : Int, spec_l1Below.f b i h n = some (x, i', h') ∧ 0 ≤ i' ∧ 0 ≤ x ∧ (0 < n → x < n) ∧ (n ≤ 0 → x = 0) := by
 unfold spec_l1Below.f
 by_cases h1 : n ≤ 0
 ·rw [if_pos h1]
  exact ⟨_, _, _, rfl, hi, by omega, by omega, fun _ => rfl⟩
 ·rw [if_neg h1]
  obtain ⟨x, i1, s1, e1, x0, x1, hi1⟩ := l1Byte_ok b i h hi hb
  rw [e1]
  simp only [some_bind]
  by_cases h2 : n ≤ 256
  ·rw [if_pos h2, if_neg (by omega)]
   refine ⟨_, _, _, rfl, hi1, ?_, fun _ => ?_, fun h => by omega⟩
   ·rw [Int.tmod_eq_emod_of_nonneg x0]; exact Int.emod_nonneg _ (by omega)
   ·rw [Int.tmod_eq_emod_of_nonneg x0]; exact Int.emod_lt_of_pos _ (by omega)
  ·rw [if_neg h2]
   obtain ⟨y, i2, s2, e2, y0, y1, hi2⟩ := l1Byte_ok b i1 s1 hi1 hb
   rw [e2]
   simp only [some_bind]
   obtain ⟨z, i3, s3, e3, z0, z1, hi3⟩ := l1Byte_ok b i2 s2 hi2 hb
   rw [e3]
   simp only [some_bind]
   rw [if_neg (by omega), wrap_id (x := x * 65536) (by omega) (by omega), wrap_id (x := y * 256) (by omega) (by omega), wrap_id (x := x * 65536 + y * 256) (by omega) (by omega), wrap_id (x := x * 65536 + y * 256 + z) (by omega) (by omega)]
   refine ⟨_, _, _, rfl, hi3, ?_, fun _ => ?_, fun h => by omega⟩
   ·rw [Int.tmod_eq_emod_of_nonneg (by omega)]; exact Int.emod_nonneg _ (by omega)
   ·rw [Int.tmod_eq_emod_of_nonneg (by omega)]; exact Int.emod_lt_of_pos _ (by omega)
theorem l1Once_ok (b : List Int) (i h n : Int) (hi : 0 ≤ i) (hb : b.length ≤ 1048576) : ∃ (x : Bool) (i' h' : Int), spec_l1Once.f b i h n = some (x, i', h') ∧ 0 ≤ i' := by
 obtain ⟨x, i1, s1, e1, hi1, _⟩ := l1Below_ok b i h n hi hb
 unfold spec_l1Once.f
 rw [e1]
 exact ⟨_, _, _, rfl, hi1⟩
theorem l1Int_ok (b : List Int) (i h : Int) (l : List Int) (hi : 0 ≤ i) (hb : b.length ≤ 1048576) (hl : 0 < l.length) (hl2 : l.length ≤ 1048576) : ∃ x i' h' : Int, spec_l1Int.f b i h l = some (x, i', h') ∧ 0 ≤ i' ∧ x ∈ l := by
 obtain ⟨x, i1, s1, e1, hi1, x0, x1, _⟩ := l1Below_ok b i h l.length hi hb
 have x2 := x1 (by omega)
 unfold spec_l1Int.f
 rw [e1]
 simp only [some_bind]
 rw [if_pos x0, if_pos x2]
 refine ⟨_, _, _, rfl, hi1, ?_⟩
 unfold rd
 rw [getD_at (by omega)]
 exact List.getElem_mem _
theorem l1Str_ok (b : List Int) (i h : Int) (l : List ByteArray) (hi : 0 ≤ i) (hb : b.length ≤ 1048576) (hl : 0 < l.length) (hl2 : l.length ≤ 1048576) : ∃ (x : ByteArray) (i' h' : Int), spec_l1Str.f b i h l = some (x, i', h') ∧ 0 ≤ i' ∧ x ∈ l := by
 obtain ⟨x, i1, s1, e1, hi1, x0, x1, _⟩ := l1Below_ok b i h l.length hi hb
 have x2 := x1 (by omega)
 unfold spec_l1Str.f
 rw [e1]
 simp only [some_bind]
 rw [if_pos x0, if_pos x2]
 refine ⟨_, _, _, rfl, hi1, ?_⟩
 unfold rdOf
 rw [getD_at (by omega)]
 exact List.getElem_mem _
theorem l1New_ok (b : List Int) (hb : b.length ≤ 1048576) : ∃ h : Int, Ev (fun k => spec_l1New.f k b) (b, 0, h) := by
 have key : ∀ (d i : Nat) (h : Int), i + d = b.length → ∃ h' : Int, Ev (fun k => spec_l1New.l0 k b h i) (b, 0, h') := by
  intro d
  induction d with
  | zero =>
   intro i h e
   exact ⟨h, Ev.unroll (by simp only [spec_l1New.l0]; exact Ev.ifn (by omega) (Ev.now _))⟩
  | succ d ih =>
   intro i h e
   by_cases h4 : (i : Int) < 4000
   ·obtain ⟨h', hh⟩ := ih (i + 1) (Go.bits .and .i64 (wrap64 (wrap64 (wrap64 (h * 137) + wrap64 (rd b i)) + 11)) 1073741823) (by omega)
    refine ⟨h', Ev.unroll ?_⟩
    simp only [spec_l1New.l0]
    refine Ev.ifp (by omega) (Ev.ifp h4 (Ev.ifp (by omega) ?_))
    rw [wrap_sc (by omega)]
    exact hh
   ·exact ⟨h, Ev.unroll (by simp only [spec_l1New.l0]; exact Ev.ifp (by omega) (Ev.ifn h4 (Ev.now _)))⟩
 exact key b.length 0 _ (by omega)

structure Drawn (w h : Int) (cs : List Int) : Prop where
 ok : floorOk w h cs = true
 len : 1 ≤ cs.length ∧ cs.length ≤ 42
def drawnTexts : List ByteArray := [(⟨#[99, 46, 46, 46, 46, 46, 10, 46, 112, 112, 46, 112, 46, 10, 46, 112, 112, 46, 112, 46, 10, 46, 46, 46, 46, 46, 115, 10]⟩ : ByteArray), (⟨#[99, 46, 46, 10, 46, 46, 46, 10, 46, 46, 115, 10]⟩ : ByteArray), (⟨#[46, 46, 46, 46, 46, 10, 46, 112, 35, 112, 46, 10, 46, 46, 115, 46, 46, 10, 46, 112, 35, 112, 46, 10, 99, 46, 46, 46, 99, 10]⟩ : ByteArray), (⟨#[46, 46, 46, 35, 46, 46, 46, 10, 46, 46, 46, 46, 46, 46, 46, 10, 46, 46, 46, 35, 46, 46, 46, 10]⟩ : ByteArray), (⟨#[99, 46, 46, 46, 46, 46, 46, 46, 10, 46, 112, 46, 112, 46, 112, 46, 46, 10, 46, 46, 46, 46, 46, 46, 46, 115, 10, 46, 112, 46, 112, 46, 112, 46, 46, 10, 99, 46, 46, 46, 46, 46, 46, 115, 10]⟩ : ByteArray), (⟨#[46, 46, 10, 46, 46, 10]⟩ : ByteArray), (⟨#[99, 46, 35, 46, 115, 10, 46, 46, 35, 46, 46, 10]⟩ : ByteArray)]
theorem drawn_pars (s : ByteArray) (hs : s ∈ drawnTexts) :
  ∃ (w h : Int) (cs : List Int), Ev (fun k => spec_ParseFloor.f k s) (w, h, cs, -1) ∧ Drawn w h cs := by
 unfold drawnTexts at hs
 simp only [List.mem_cons, List.not_mem_nil, or_false] at hs
 rcases hs with rfl | rfl | rfl | rfl | rfl | rfl | rfl
 ·exact ⟨6, 4, [4, 1, 1, 1, 1, 1, 1, 2, 2, 1, 2, 1, 1, 2, 2, 1, 2, 1, 1, 1, 1, 1, 1, 3], Ev.of (spec_ParseFloor.mono _) (k := 200) (by decide +kernel), by decide +kernel, by decide⟩
 ·exact ⟨3, 3, [4, 1, 1, 1, 1, 1, 1, 1, 3], Ev.of (spec_ParseFloor.mono _) (k := 200) (by decide +kernel), by decide +kernel, by decide⟩
 ·exact ⟨5, 5, [1, 1, 1, 1, 1, 1, 2, 0, 2, 1, 1, 1, 3, 1, 1, 1, 2, 0, 2, 1, 4, 1, 1, 1, 4], Ev.of (spec_ParseFloor.mono _) (k := 200) (by decide +kernel), by decide +kernel, by decide⟩
 ·exact ⟨7, 3, [1, 1, 1, 0, 1, 1, 1, 1, 1, 1, 1, 1, 1, 1, 1, 1, 1, 0, 1, 1, 1], Ev.of (spec_ParseFloor.mono _) (k := 200) (by decide +kernel), by decide +kernel, by decide⟩
 ·exact ⟨8, 5, [4, 1, 1, 1, 1, 1, 1, 1, 1, 2, 1, 2, 1, 2, 1, 1, 1, 1, 1, 1, 1, 1, 1, 3, 1, 2, 1, 2, 1, 2, 1, 1, 4, 1, 1, 1, 1, 1, 1, 3], Ev.of (spec_ParseFloor.mono _) (k := 200) (by decide +kernel), by decide +kernel, by decide⟩
 ·exact ⟨2, 2, [1, 1, 1, 1], Ev.of (spec_ParseFloor.mono _) (k := 200) (by decide +kernel), by decide +kernel, by decide⟩
 ·exact ⟨5, 2, [4, 1, 0, 1, 3, 1, 1, 0, 1, 1], Ev.of (spec_ParseFloor.mono _) (k := 200) (by decide +kernel), by decide +kernel, by decide⟩
theorem l1Floor_l0_ok (b : List Int) (hb : b.length ≤ 1048576) (w h : Int) (hw : 1 ≤ w ∧ w ≤ 7) (hh : 1 ≤ h ∧ h ≤ 6) (n : Nat) (hn : (n : Int) = w * h) : ∀ (d j : Nat) (i s : Int) (cs : List Int), j + d = n → 0 ≤ i → cs.length = j → (∀ x ∈ cs, 0 ≤ x ∧ x ≤ 4) →
  ∃ (cs' : List Int) (i' s' : Int), Ev (fun k => spec_l1Floor.l0 k j b i s w h cs) (w, h, cs', i', s') ∧ cs'.length = n ∧ (∀ x ∈ cs', 0 ≤ x ∧ x ≤ 4) ∧ 0 ≤ i' := by
 have area : w * h ≤ 7 * 6 := Int.mul_le_mul hw.2 hh.2 (by omega) (by omega)
 have e0 : wrap64 (w * h) = n := by rw [wrap_id (by omega) (by omega)]; omega
 intro d
 induction d with
 | zero =>
  intro j i s cs e hi hl hc
  refine ⟨cs, i, s, Ev.unroll ?_, by omega, hc, hi⟩
  simp only [spec_l1Floor.l0, e0]
  exact Ev.ifn (by omega) (Ev.now _)
 | succ d ih =>
  intro j i s cs e hi hl hc
  obtain ⟨x, i1, s1, e1, hi1, hx⟩ := l1Int_ok b i s [1, 1, 1, 1, 1, 1, 0, 2, 3, 4] hi hb (by decide) (by decide)
  have hx2 : 0 ≤ x ∧ x ≤ 4 := by
   simp only [List.mem_cons, List.not_mem_nil, or_false] at hx
   omega
  obtain ⟨cs', i', s', h1, h2, h3, h4⟩ := ih (j + 1) i1 s1 (cs ++ [x]) (by omega) hi1 (by simp; omega) (fun y hy => by
   rw [List.mem_append, List.mem_singleton] at hy
   rcases hy with hy | hy
   ·exact hc y hy
   ·rw [hy]; exact hx2)
  refine ⟨cs', i', s', Ev.unroll ?_, h2, h3, h4⟩
  simp only [spec_l1Floor.l0, e0, e1, some_bind]
  refine Ev.ifp (by omega) (Ev.ifp (by omega) ?_)
  rw [wrap_sc (by omega)]
  exact h1
theorem drawn_of {w h : Int} {cs : List Int} (hw : 1 ≤ w ∧ w ≤ 7) (hh : 1 ≤ h ∧ h ≤ 6) (hl : (cs.length : Int) = w * h) (hc : ∀ x ∈ cs, 0 ≤ x ∧ x ≤ 4) : Drawn w h cs := by
 have area : w * h ≤ 7 * 6 := Int.mul_le_mul hw.2 hh.2 (by omega) (by omega)
 have area1 : 1 * 1 ≤ w * h := Int.mul_le_mul hw.1 hh.1 (by omega) (by omega)
 refine ⟨?_, by omega, by omega⟩
 unfold floorOk kindsOk
 simp only [Bool.and_eq_true, inB_iff, decide_eq_true_eq, allFrom_iff]
 exact ⟨⟨⟨⟨hw.1, by omega⟩, hh.1, by omega⟩, hl⟩, fun j _ hj => by rw [getD_at hj]; exact hc _ (List.getElem_mem hj)⟩
theorem l1Floor_ok (b : List Int) (i s : Int) (hi : 0 ≤ i) (hb : b.length ≤ 1048576) : ∃ (w h : Int) (cs : List Int) (i' s' : Int), Ev (fun k => spec_l1Floor.f k b i s) (w, h, cs, i', s') ∧ Drawn w h cs ∧ 0 ≤ i' := by
 unfold spec_l1Floor.f
 obtain ⟨x, i1, s1, e1, hi1⟩ := l1Once_ok b i s 3 hi hb
 rw [e1]
 simp only [some_bind]
 cases x with
 | true =>
  obtain ⟨t, i2, s2, e2, hi2, ht⟩ := l1Str_ok b i1 s1 drawnTexts hi1 hb (by decide) (by decide)
  obtain ⟨w, h, cs, hp, hd⟩ := drawn_pars t ht
  refine ⟨w, h, cs, i2, s2, ?_, hd, hi2⟩
  unfold drawnTexts at e2
  rw [e2]
  simp only [if_true, some_bind]
  exact Ev.bind hp (Ev.now _)
 | false =>
  obtain ⟨x, i2, s2, e2, hi2, x0, x1, _⟩ := l1Below_ok b i1 s1 7 hi1 hb
  obtain ⟨y, i3, s3, e3, hi3, y0, y1, _⟩ := l1Below_ok b i2 s2 6 hi2 hb
  have x1 := x1 (by omega)
  have y1 := y1 (by omega)
  have area0 : 0 ≤ (1 + x) * (1 + y) := Int.mul_nonneg (by omega) (by omega)
  obtain ⟨cs, i4, s4, h1, h2, h3, h4⟩ := l1Floor_l0_ok b hb (1 + x) (1 + y) (by omega) (by omega) ((1 + x) * (1 + y)).toNat (by omega) ((1 + x) * (1 + y)).toNat 0 i3 s3 [] (by omega) hi3 rfl (by simp)
  refine ⟨1 + x, 1 + y, cs, i4, s4, ?_, drawn_of (by omega) (by omega) (by omega) h3, h4⟩
  rw [e2]
  simp only [Bool.false_eq_true, if_false, some_bind]
  rw [e3]
  simp only [some_bind]
  rw [wrap_id (x := 1 + x) (by omega) (by omega), wrap_id (x := 1 + y) (by omega) (by omega)]
  exact h1
structure CrewD (cs : List Int) (out : List S37) : Prop where
 len : out.length ≤ 20
 ok : ∀ i : Nat, i < out.length → (robAt out i).f0 = (i : Int) + 1 ∧ cellB cs (robAt out i).f1 = true ∧ ((robAt out i).f2 = -1 ∨ cellB cs (robAt out i).f2 = true) ∧ 0 ≤ (robAt out i).f4 ∧ (robAt out i).f4 ≤ 7
 apart : ∀ i j : Nat, i < j → j < out.length → (robAt out i).f1 ≠ (robAt out j).f1
structure Crewing (cs : List Int) (out : List S37) (free : List Int) : Prop extends CrewD cs out where
 cells : ∀ c ∈ free, cellB cs c = true
 left : ∀ i : Nat, i < out.length → (robAt out i).f1 ∉ free
 once : free.Nodup
theorem openL_mem {cs : List Int} {c : Int} : c ∈ openL cs ↔ cellB cs c = true := by
 unfold openL cellB
 rw [mem_filtFrom, Bool.and_eq_true, inB_iff]
 constructor
 ·rintro ⟨j, _, h1, h2, rfl⟩
  refine ⟨by omega, ?_⟩
  rw [rd_nat']
  simpa using h2
 ·rintro ⟨⟨h0, h1⟩, h2⟩
  refine ⟨c.toNat, Nat.zero_le _, by omega, ?_, by omega⟩
  rw [show c = ((c.toNat : Nat) : Int) by omega, rd_nat'] at h2
  simpa using h2
theorem filtFrom_nodup {n i : Nat} {p : Nat → Bool} : (filtFrom n i p).Nodup := by
 unfold filtFrom List.Nodup
 rw [List.pairwise_map]
 exact ((List.nodup_range' (step := 1)).filter _).imp (fun h e => h (by omega))
theorem robAt_app {l : List S37} {r : S37} {i : Nat} : robAt (l ++ [r]) i = if i < l.length then robAt l i else if i = l.length then r else z37 := by
 unfold robAt
 rw [List.getD_eq_getElem?_getD, List.getD_eq_getElem?_getD]
 by_cases h : i < l.length
 ·rw [if_pos h, List.getElem?_append_left h]
 ·rw [if_neg h, List.getElem?_append_right (by omega)]
  by_cases h2 : i = l.length
  ·rw [if_pos h2, h2]; simp
  ·rw [if_neg h2, List.getElem?_eq_none (by simp; omega)]; rfl
theorem cut_sub (l : List Int) (n : Nat) : (l.take n ++ l.drop (n + 1)).Sublist l := by
 rw [← List.eraseIdx_eq_take_drop_succ]
 exact List.eraseIdx_sublist l n
theorem cut_not {l : List Int} (h : l.Nodup) {n : Nat} (hn : n < l.length) : l[n] ∉ l.take n ++ l.drop (n + 1) := by
 intro hm
 have e : l = l.take n ++ l[n] :: l.drop (n + 1) := by
  rw [← List.drop_eq_getElem_cons hn, List.take_append_drop]
 rw [e, List.nodup_append] at h
 rw [List.mem_append] at hm
 rcases hm with hm | hm
 ·exact h.2.2 _ hm _ (List.mem_cons_self ..) rfl
 ·exact (List.nodup_cons.1 h.2.1).1 hm
theorem Crewing.step {cs : List Int} {out : List S37} {free : List Int} (C : Crewing cs out free) (h20 : out.length < 20) {j : Int} (j0 : 0 ≤ j) (j1 : j < (free.length : Int)) {g a : Int} {ld : Bool} (hg : g = -1 ∨ cellB cs g = true) (ha : 0 ≤ a ∧ a ≤ 7) :
  Crewing cs (out ++ [⟨(out.length : Int) + 1, rd free j, g, ld, a⟩]) (free.take j.toNat ++ free.drop (j.toNat + 1)) := by
 have hr : rd free j = free[j.toNat] := by unfold rd; rw [getD_at (by omega)]
 have hm : rd free j ∈ free := by rw [hr]; exact List.getElem_mem _
 have hs := cut_sub free j.toNat
 have at_ : ∀ i : Nat, i < out.length + 1 → robAt (out ++ [(⟨(out.length : Int) + 1, rd free j, g, ld, a⟩ : S37)]) i = if i < out.length then robAt out i else ⟨(out.length : Int) + 1, rd free j, g, ld, a⟩ := fun i hi => by
  rw [robAt_app]
  by_cases h : i < out.length
  ·rw [if_pos h, if_pos h]
  ·rw [if_neg h, if_neg h, if_pos (by omega)]
 have hl : (out ++ [(⟨(out.length : Int) + 1, rd free j, g, ld, a⟩ : S37)]).length = out.length + 1 := by simp
 refine ⟨⟨by omega, fun i hi => ?_, fun i k hik hk => ?_⟩, fun c hc => C.cells c (hs.mem hc), fun i hi hc => ?_, C.once.sublist hs⟩
 ·rw [at_ i (by omega)]
  by_cases h : i < out.length
  ·rw [if_pos h]; exact C.ok i h
  ·rw [if_neg h]
   exact ⟨by dsimp only; omega, C.cells _ hm, hg, ha⟩
 ·rw [at_ i (by omega), at_ k (by omega), if_pos (show i < out.length by omega)]
  by_cases h : k < out.length
  ·rw [if_pos h]; exact C.apart i k hik h
  ·rw [if_neg h]
   intro e
   exact C.left i (by omega) (by rw [e]; exact hm)
 ·rw [at_ i (by omega)] at hc
  by_cases h : i < out.length
  ·rw [if_pos h] at hc
   exact C.left i h (hs.mem hc)
  ·rw [if_neg h] at hc
   dsimp only at hc
   rw [hr] at hc
   exact cut_not C.once (by omega) hc
theorem l7Crew_l0_ok (b : List Int) (hb : b.length ≤ 1048576) (w hh : Int) (cs : List Int) (hn : cs.length ≤ 100) : ∀ (d : Nat) (out : List S37) (free : List Int) (i p h : Int), i ≤ (d : Int) → i ≤ 100000 → 0 ≤ p → free.length ≤ 100 → Crewing cs out free →
  ∃ (out' : List S37) (p' h' : Int), Ev (fun k => spec_l7Crew.l0 k out free i b p h w hh cs) (out', p', h') ∧ CrewD cs out' ∧ 0 ≤ p' := by
 intro d
 induction d with
 | zero =>
  intro out free i p h hi _ hp _ C
  refine ⟨out, p, h, Ev.unroll ?_, C.toCrewD, hp⟩
  simp only [spec_l7Crew.l0]
  exact Ev.ifn (by omega) (Ev.now _)
 | succ d ih =>
  intro out free i p h hi hi2 hp hfl C
  by_cases c1 : 0 < i
  ·by_cases c2 : 0 < free.length
   ·by_cases c3 : out.length < 20
    ·obtain ⟨j1, p1, h1, e1, hp1, x0, x1, _⟩ := l1Below_ok b p h free.length hp hb
     have x1 := x1 (by omega)
     have hgm : 0 < (openL cs).length := by
      have hm : free[0] ∈ openL cs := openL_mem.2 (C.cells _ (List.getElem_mem c2))
      exact List.length_pos_of_mem hm
     have hgl : (openL cs).length ≤ 100 := by unfold openL; exact Nat.le_trans filtFrom_le (by omega)
     obtain ⟨j2, p2, h2, e2, hp2, y0, y1, _⟩ := l1Below_ok b p1 h1 (openL cs).length hp1 hb
     have y1 := y1 (by omega)
     obtain ⟨o3, p3, h3, e3, hp3⟩ := l1Once_ok b p2 h2 3 hp2 hb
     obtain ⟨j4, p4, h4, e4, hp4, hm4⟩ := l1Int_ok b p3 h3 [0, 0, 1, 2, 7] hp3 hb (by decide) (by decide)
     obtain ⟨o5, p5, h5, e5, hp5⟩ := l1Once_ok b p4 h4 5 hp4 hb
     have hj4 : 0 ≤ j4 ∧ j4 ≤ 7 := by
      simp only [List.mem_cons, List.not_mem_nil, or_false] at hm4
      omega
     have hgv : (if o5 = true then (-1 : Int) else rd (openL cs) j2) = -1 ∨ cellB cs (if o5 = true then (-1 : Int) else rd (openL cs) j2) = true := by
      cases o5 with
      | true => exact Or.inl rfl
      | false =>
       refine Or.inr (openL_mem.1 ?_)
       show rd (openL cs) j2 ∈ openL cs
       unfold rd
       rw [getD_at (by omega)]
       exact List.getElem_mem _
     have C2 := C.step c3 x0 x1 (ld := o3) hgv hj4
     have hfl2 : (free.take j1.toNat ++ free.drop (j1.toNat + 1)).length ≤ 100 := Nat.le_trans (cut_sub free j1.toNat).length_le hfl
     obtain ⟨out', p', h', e6, D, hp'⟩ := ih _ _ (i - 1) p5 h5 (by omega) (by omega) hp5 hfl2 C2
     refine ⟨out', p', h', Ev.unroll ?_, D, hp'⟩
     simp only [spec_l7Crew.l0, e1, some_bind]
     refine Ev.ifp c1 (Ev.ifp c2 (Ev.ifp c3 (Ev.bind (spec_l2Free_f w hh cs (by omega)) (Ev.ifp x0 (Ev.ifp x1 (Ev.ifp (by omega) ?_))))))
     simp only [e2, some_bind]
     refine Ev.ifp y0 (Ev.ifp y1 ?_)
     simp only [e3, e4, e5, some_bind, List.nil_append]
     rw [wrap_id (x := i - 1) (by omega) (by omega), wrap_id (x := j1 + 1) (by omega) (by omega), wrap_id (x := (out.length : Int) + 1) (by omega) (by omega), show (j1 + 1).toNat = j1.toNat + 1 by omega]
     exact e6
    ·refine ⟨out, p, h, Ev.unroll ?_, C.toCrewD, hp⟩
     simp only [spec_l7Crew.l0]
     exact Ev.ifp c1 (Ev.ifp c2 (Ev.ifn c3 (Ev.now _)))
   ·refine ⟨out, p, h, Ev.unroll ?_, C.toCrewD, hp⟩
    simp only [spec_l7Crew.l0]
    exact Ev.ifp c1 (Ev.ifn c2 (Ev.now _))
  ·refine ⟨out, p, h, Ev.unroll ?_, C.toCrewD, hp⟩
   simp only [spec_l7Crew.l0]
   exact Ev.ifn c1 (Ev.now _)
theorem l7Crew_ok (b : List Int) (hb : b.length ≤ 1048576) (p h w hh : Int) (cs : List Int) (most : Int) (hp : 0 ≤ p) (hn : cs.length ≤ 100) (hm : 0 ≤ most ∧ most ≤ 100) :
  ∃ (out : List S37) (p' h' : Int), Ev (fun k => spec_l7Crew.f k b p h w hh cs most) (out, p', h') ∧ CrewD cs out ∧ 0 ≤ p' := by
 obtain ⟨i, p1, h1, e1, hp1, x0, x1, _⟩ := l1Below_ok b p h (most + 1) hp hb
 have x1 := x1 (by omega)
 have hgl : (openL cs).length ≤ 100 := by unfold openL; exact Nat.le_trans filtFrom_le (by omega)
 obtain ⟨out, p', h', e2, D, hp'⟩ := l7Crew_l0_ok b hb w hh cs hn 1000 [] (openL cs) i p1 h1 (by omega) (by omega) hp1 hgl ⟨⟨by simp, fun i hi => by simp at hi, fun i j _ hj => by simp at hj⟩, fun c hc => openL_mem.1 hc, fun i hi => by simp at hi, filtFrom_nodup⟩
 refine ⟨out, p', h', ?_, D, hp'⟩
 unfold spec_l7Crew.f
 refine Ev.bind (spec_l2Free_f w hh cs (by omega)) (Ev.ifp (by omega) (Ev.ifp (by omega) ?_))
 simp only [e1, some_bind]
 exact e2
theorem CrewD.right {w h : Int} {cs : List Int} {out : List S37} (D : CrewD cs out) (hf : floorOk w h cs = true) : crewOk w h cs out = true := by
 unfold crewOk
 rw [hf, Bool.true_and, decide_eq_true D.len, Bool.true_and, allFrom_iff]
 intro i _ hi
 obtain ⟨h1, h2, h3, h4, h5⟩ := D.ok i hi
 have hl := D.len
 unfold robotAtOk robotOk
 rw [Bool.and_eq_true, Bool.and_eq_true, Bool.and_eq_true, Bool.and_eq_true, Bool.and_eq_true, Bool.or_eq_true, Bool.or_eq_true, decide_eq_true_eq, decide_eq_true_eq, decide_eq_true_eq, inB_iff, inB_iff, allFrom_iff]
 refine ⟨⟨by omega, h2, h3, by omega⟩, ?_, fun k _ hk => ?_⟩
 ·by_cases h0 : i = 0
  ·exact Or.inl h0
  ·have := (D.ok (i - 1) (by omega)).1
   exact Or.inr (by omega)
 ·unfold notThere
  rw [decide_eq_false (D.apart k i hk hi)]; rfl
theorem l3Sound_j1_s (b : List Int) (i s w h : Int) (cs : List Int) (x : Bool) (hi : 0 ≤ i) (hw : 2 ≤ w ∧ w ≤ 5) (hh : 2 ≤ h ∧ h ≤ 4) (hl : (cs.length : Int) = w * h) (hc : ∀ x ∈ cs, 1 ≤ x ∧ x ≤ 4) (hx : x = true → w + 1 < (cs.length : Int)) : ∃ (w' h' : Int) (cs' : List Int) (i' s' : Int), Ev (fun k => spec_l3Sound.j1 k x b i s w h cs) (w', h', cs', i', s') ∧ soundOf w' h' cs' = true ∧ cs'.length ≤ 42 ∧ 0 ≤ i' := by
 have area : w * h ≤ 5 * 4 := Int.mul_le_mul hw.2 hh.2 (by omega) (by omega)
 cases x with
 | false =>
  refine ⟨w, h, cs, i, s, Ev.unroll ?_, full_sound hw hh hl hc, by omega, hi⟩
  simp only [spec_l3Sound.j1]
  exact Ev.ifn (by decide) (Ev.now _)
 | true =>
  have h1 := hx rfl
  have e0 : wrap64 (w + 1) = w + 1 := wrap_id (by omega) (by omega)
  have hs := spec_Sound_f w h (cs.set (w + 1).toNat 0) (by rw [List.length_set]; omega)
  by_cases hb : soundOf w h (cs.set (w + 1).toNat 0) = true
  ·refine ⟨w, h, cs.set (w + 1).toNat 0, i, s, Ev.unroll ?_, hb, by rw [List.length_set]; omega, hi⟩
   simp only [spec_l3Sound.j1, e0, some_bind]
   exact Ev.ifp trivial (Ev.ifp (by omega) (Ev.ifp h1 (Ev.bind hs (Ev.ifp hb (Ev.now _)))))
  ·refine ⟨w, h, (cs.set (w + 1).toNat 0).set (w + 1).toNat 1, i, s, Ev.unroll ?_, full_sound hw hh (by simpa using hl) (fun y hy => ?_), by simp only [List.length_set]; omega, hi⟩
   ·simp only [spec_l3Sound.j1, e0, some_bind]
    exact Ev.ifp trivial (Ev.ifp (by omega) (Ev.ifp h1 (Ev.bind hs (Ev.ifn hb (Ev.now _)))))
   ·rw [List.set_set] at hy
    rcases List.mem_or_eq_of_mem_set hy with hy | hy
    ·exact hc y hy
    ·omega
theorem l3Sound_l0_s (b : List Int) (hb : b.length ≤ 1048576) (w h : Int) (hw : 2 ≤ w ∧ w ≤ 5) (hh : 2 ≤ h ∧ h ≤ 4) (n : Nat) (hn : (n : Int) = w * h) : ∀ (d j : Nat) (i s : Int) (cs : List Int), j + d = n → 0 ≤ i → cs.length = j → (∀ x ∈ cs, 1 ≤ x ∧ x ≤ 4) →
  ∃ (w' h' : Int) (cs' : List Int) (i' s' : Int), Ev (fun k => spec_l3Sound.l0 k j b i s w h cs) (w', h', cs', i', s') ∧ soundOf w' h' cs' = true ∧ cs'.length ≤ 42 ∧ 0 ≤ i' := by
 have area : w * h ≤ 5 * 4 := Int.mul_le_mul hw.2 hh.2 (by omega) (by omega)
 have e0 : wrap64 (w * h) = n := by rw [wrap_id (by omega) (by omega)]; omega
 intro d
 induction d with
 | zero =>
  intro j i s cs e hi hl hc
  have fin : ∀ (x : Bool) (i s : Int), 0 ≤ i → (x = true → w > 2 ∧ h > 2) → ∃ (w' h' : Int) (cs' : List Int) (i' s' : Int), Ev (fun k => spec_l3Sound.j1 k x b i s w h cs) (w', h', cs', i', s') ∧ soundOf w' h' cs' = true ∧ cs'.length ≤ 42 ∧ 0 ≤ i' := fun x i s hi hx => l3Sound_j1_s b i s w h cs x hi hw hh (by omega) hc (fun hx' => by
   have h3 := hx hx'
   have : w * 3 ≤ w * h := Int.mul_le_mul_of_nonneg_left (by omega) (by omega)
   omega)
  by_cases c1 : w > 2
  ·by_cases c2 : h > 2
   ·obtain ⟨x, i1, s1, e1, hi1⟩ := l1Once_ok b i s 2 hi hb
    obtain ⟨w', h', cs', i', s', e2, h2⟩ := fin x i1 s1 hi1 (fun _ => ⟨c1, c2⟩)
    refine ⟨w', h', cs', i', s', Ev.unroll ?_, h2⟩
    simp only [spec_l3Sound.l0, e0, e1, some_bind]
    exact Ev.ifn (by omega) (Ev.ifp c1 (Ev.ifp c2 e2))
   ·obtain ⟨w', h', cs', i', s', e2, h2⟩ := fin false i s hi (fun h => by cases h)
    refine ⟨w', h', cs', i', s', Ev.unroll ?_, h2⟩
    simp only [spec_l3Sound.l0, e0]
    exact Ev.ifn (by omega) (Ev.ifp c1 (Ev.ifn c2 e2))
  ·obtain ⟨w', h', cs', i', s', e2, h2⟩ := fin false i s hi (fun h => by cases h)
   refine ⟨w', h', cs', i', s', Ev.unroll ?_, h2⟩
   simp only [spec_l3Sound.l0, e0]
   exact Ev.ifn (by omega) (Ev.ifn c1 e2)
 | succ d ih =>
  intro j i s cs e hi hl hc
  obtain ⟨x, i1, s1, e1, hi1, hx⟩ := l1Int_ok b i s [1, 1, 1, 2, 3, 4] hi hb (by decide) (by decide)
  have hx2 : 1 ≤ x ∧ x ≤ 4 := by
   simp only [List.mem_cons, List.not_mem_nil, or_false] at hx
   omega
  obtain ⟨w', h', cs', i', s', e2, h2⟩ := ih (j + 1) i1 s1 (cs ++ [x]) (by omega) hi1 (by simp; omega) (fun y hy => by
   rw [List.mem_append, List.mem_singleton] at hy
   rcases hy with hy | hy
   ·exact hc y hy
   ·rw [hy]; exact hx2)
  refine ⟨w', h', cs', i', s', Ev.unroll ?_, h2⟩
  simp only [spec_l3Sound.l0, e0, e1, some_bind]
  refine Ev.ifp (by omega) (Ev.ifp (by omega) ?_)
  rw [wrap_sc (by omega)]
  exact e2
theorem l3Sound_s (b : List Int) (i s : Int) (hi : 0 ≤ i) (hb : b.length ≤ 1048576) : ∃ (w h : Int) (cs : List Int) (i' s' : Int), Ev (fun k => spec_l3Sound.f k b i s) (w, h, cs, i', s') ∧ soundOf w h cs = true ∧ cs.length ≤ 42 ∧ 0 ≤ i' := by
 unfold spec_l3Sound.f
 obtain ⟨w, h, cs, i1, s1, e1, hd, hi1⟩ := l1Floor_ok b i s hi hb
 have hl := hd.len
 have hs := spec_Sound_f w h cs (by omega)
 by_cases hso : soundOf w h cs = true
 ·exact ⟨w, h, cs, i1, s1, Ev.bind e1 (Ev.bind hs (Ev.ifp hso (Ev.now _))), hso, by omega, hi1⟩
 ·obtain ⟨x, i2, s2, e2, hi2, x0, x1, _⟩ := l1Below_ok b i1 s1 4 hi1 hb
  obtain ⟨y, i3, s3, e3, hi3, y0, y1, _⟩ := l1Below_ok b i2 s2 3 hi2 hb
  have x1 := x1 (by omega)
  have y1 := y1 (by omega)
  have area0 : 0 ≤ (2 + x) * (2 + y) := Int.mul_nonneg (by omega) (by omega)
  obtain ⟨w', h', cs', i', s', e4, h4⟩ := l3Sound_l0_s b hb (2 + x) (2 + y) (by omega) (by omega) ((2 + x) * (2 + y)).toNat (by omega) ((2 + x) * (2 + y)).toNat 0 i3 s3 [] (by omega) hi3 rfl (by simp)
  refine ⟨w', h', cs', i', s', Ev.bind e1 (Ev.bind hs (Ev.ifn hso ?_)), h4⟩
  simp only [e2, some_bind, e3, wrap_id (x := 2 + x) (by omega) (by omega), wrap_id (x := 2 + y) (by omega) (by omega)]
  exact e4
def down (r : S37) : S37 := ⟨r.f0, r.f1, r.f2, false, 0⟩
theorem lively_l0 (w h : Int) (cs : List Int) : ∀ (zs ys : List S37), ys.length + zs.length ≤ 20 → Ev (fun k => spec_DrawLively.l0 k (ys ++ zs) (ys.length : Int) w h cs) (w, h, cs, ys ++ zs.map down)
 | [], ys, hl => Ev.unroll (by
   simp only [spec_DrawLively.l0, List.append_nil, List.map_nil]
   exact Ev.ifn (by omega) (Ev.now _))
 | z :: zs, ys, hl => Ev.unroll (by
   have hl2 : ys.length + (zs.length + 1) ≤ 20 := by simpa using hl
   have ih := lively_l0 w h cs zs (ys ++ [down z]) (by simp; omega)
   have er : ∀ u : S37, rd_T37 (ys ++ u :: zs) (ys.length : Int) = u := fun u => by
    rw [rd_rob]; unfold robAt; rw [List.getD_eq_getElem?_getD, List.getElem?_append_right (Nat.le_refl _), Nat.sub_self]; rfl
   have es : ∀ u v : S37, (ys ++ u :: zs).set ys.length v = ys ++ v :: zs := fun u v => by rw [List.set_append_right _ _ (Nat.le_refl _), Nat.sub_self, List.set_cons_zero]
   simp only [spec_DrawLively.l0, er, es, some_bind, Int.toNat_natCast, wrap_sc (show ys.length < 9223372036854775807 by omega)]
   refine Ev.ifp (by simp; omega) (Ev.ifp (by omega) ?_)
   simp only [List.length_append, List.length_singleton, List.append_assoc, List.singleton_append, List.map_cons] at ih ⊢
   exact ih)
structure LivelyC (w h : Int) (cs : List Int) (l : List S37) : Prop where
 sound : soundOf w h cs = true
 len : cs.length ≤ 42
 ok : crewOk w h cs l = true
 low : ∀ i : Nat, i < l.length → (robAt l i).f3 = false
 age : ∀ i : Nat, i < l.length → (robAt l i).f4 = 0
theorem DrawLively_ok (b : List Int) (hb : b.length ≤ 1048576) : ∃ (w h : Int) (cs : List Int) (l : List S37), Ev (fun k => spec_DrawLively.f k b) (w, h, cs, l) ∧ LivelyC w h cs l := by
 unfold spec_DrawLively.f
 obtain ⟨s, e0⟩ := l1New_ok b hb
 obtain ⟨w, hh, cs, p1, h1, e1, hs, hl, hp1⟩ := l3Sound_s b 0 s (by omega) hb
 obtain ⟨m, p2, h2, e2, hp2, hm⟩ := l1Int_ok b p1 h1 [3, 8, 20] hp1 hb (by decide) (by decide)
 have hm2 : 0 ≤ m ∧ m ≤ 100 := by
  simp only [List.mem_cons, List.not_mem_nil, or_false] at hm
  omega
 obtain ⟨out, p3, h3, e3, D, hp3⟩ := l7Crew_ok b hb p2 h2 w hh cs m hp2 (by omega) hm2
 have hf : floorOk w hh cs = true := by
  unfold soundOf togetherOf at hs
  simp only [Bool.and_eq_true] at hs
  exact hs.1.1
 have ra : ∀ i : Nat, i < out.length → robAt (out.map down) i = down (robAt out i) := fun i hi => by
  unfold robAt
  rw [getD_at (by simpa using hi), getD_at hi, List.getElem_map]
 have D2 : CrewD cs (out.map down) := by
  refine ⟨by rw [List.length_map]; exact D.len, fun i hi => ?_, fun i j hij hj => ?_⟩
  ·rw [List.length_map] at hi
   obtain ⟨a1, a2, a3, a4, a5⟩ := D.ok i hi
   rw [ra i hi]
   exact ⟨a1, a2, a3, by unfold down; exact Int.le_refl 0, by unfold down; show (0 : Int) ≤ 7; omega⟩
  ·rw [List.length_map] at hj
   rw [ra i (by omega), ra j hj]
   exact D.apart i j hij hj
 have l0 := lively_l0 w hh cs out [] (by have := D.len; simp; omega)
 refine ⟨w, hh, cs, out.map down, Ev.bind e0 (Ev.bind e1 ?_), ⟨hs, hl, D2.right hf, fun i hi => ?_, fun i hi => ?_⟩⟩
 ·simp only [e2, some_bind]
  exact Ev.bind e3 l0
 ·rw [ra i (by simpa using hi)]; rfl
 ·rw [ra i (by simpa using hi)]; rfl

theorem crewOk_iff {w h : Int} {cs : List Int} {l : List S37} : crewOk w h cs l = true ↔ floorOk w h cs = true ∧ l.length ≤ 20 ∧ ∀ i : Nat, i < l.length → robotOk cs (robAt l i) = true ∧ (i = 0 ∨ (robAt l (i - 1)).f0 < (robAt l i).f0) ∧ ∀ k : Nat, k < i → (robAt l k).f1 ≠ (robAt l i).f1 := by
 unfold crewOk
 rw [Bool.and_eq_true, Bool.and_eq_true, decide_eq_true_eq, allFrom_iff]
 constructor
 ·rintro ⟨h1, h2, h3⟩
  refine ⟨h1, h2, fun i hi => ?_⟩
  have h4 := h3 i (Nat.zero_le _) hi
  unfold robotAtOk at h4
  rw [Bool.and_eq_true, Bool.and_eq_true, Bool.or_eq_true, decide_eq_true_eq, decide_eq_true_eq, allFrom_iff] at h4
  refine ⟨h4.1, h4.2.1, fun k hk e => ?_⟩
  have h5 := h4.2.2 k (Nat.zero_le _) hk
  unfold notThere at h5
  rw [decide_eq_true e] at h5
  cases h5
 ·rintro ⟨h1, h2, h3⟩
  refine ⟨h1, h2, fun i _ hi => ?_⟩
  obtain ⟨a, b, c⟩ := h3 i hi
  unfold robotAtOk
  rw [Bool.and_eq_true, Bool.and_eq_true, Bool.or_eq_true, decide_eq_true_eq, decide_eq_true_eq, allFrom_iff]
  refine ⟨a, b, fun k _ hk => ?_⟩
  unfold notThere
  rw [decide_eq_false (c k hk)]; rfl
theorem robotOk_iff {cs : List Int} {r : S37} : robotOk cs r = true ↔ (1 ≤ r.f0 ∧ r.f0 ≤ 99) ∧ cellB cs r.f1 = true ∧ (r.f2 = -1 ∨ cellB cs r.f2 = true) ∧ 0 ≤ r.f4 ∧ r.f4 ≤ 1000000 := by
 unfold robotOk
 rw [Bool.and_eq_true, Bool.and_eq_true, Bool.and_eq_true, Bool.or_eq_true, decide_eq_true_eq, inB_iff, inB_iff]
theorem choice_cell {w h : Int} {cs : List Int} {r : S37} (F : RobF w h cs r) {v : Int} (hv : v ∈ choicesOf w h cs r) : cellB cs v = true := by
 have hst := standB_iff.1 F.stand
 have hc := F.ch0 v hv
 rw [F.eq] at hv
 have hso := sortF_sorted (farLt_as (farOf w h cs r.f1 r.f2 r.f3) (cs.length : Int) r.f1) (farLt_nt _ _ _) (outOf w h cs r.f1 r.f2 r.f3)
 rcases outOf_mem.1 ((hso.mem _).1 hv) with e | ⟨_, ⟨h2, _⟩ | ⟨h2, h3⟩⟩
 ·rw [e]; exact hst.1
 ·exact cellB_iff.2 ⟨hc, h2⟩
 ·rcases hst.2 with h4 | h4
  ·omega
  ·rw [h3]; exact h4
def advL (l : List S37) (nx : List Int) : List S37 := List.zipWith impl_Advance.one l nx
theorem impl_Advance_l0 (nx : List Int) (h20 : nx.length ≤ 20) : ∀ (zs ys : List S37), ys.length + zs.length = nx.length → Ev (fun k => impl_Advance.l0 k (ys ++ zs) nx (ys.length : Int)) (ys ++ advL zs (nx.drop ys.length))
 | [], ys, hl => Ev.unroll (by
   have : ys.length + 0 = nx.length := hl
   simp only [impl_Advance.l0, advL, List.zipWith_nil_left]
   exact Ev.ifn (by omega) (Ev.now _))
 | z :: zs, ys, hl => Ev.unroll (by
   have hl2 : ys.length + (zs.length + 1) = nx.length := by simpa using hl
   have hi : ys.length < nx.length := by omega
   have ih := impl_Advance_l0 nx h20 zs (ys ++ [impl_Advance.one z nx[ys.length]]) (by simp; omega)
   have er : rd_T37 (ys ++ z :: zs) (ys.length : Int) = z := by
    rw [rd_rob]; unfold robAt; rw [List.getD_eq_getElem?_getD, List.getElem?_append_right (Nat.le_refl _), Nat.sub_self]; rfl
   simp only [impl_Advance.l0, er, rd_nat hi, wrap_sc (show ys.length < 9223372036854775807 by omega), Int.toNat_natCast]
   refine Ev.ifp (by omega) (Ev.ifp (by omega) (Ev.ifp (by simp; omega) ?_))
   rw [fill_step ys (z :: zs) _ rfl (by simp), drop_cons hi]
   simp only [List.length_append, List.length_singleton, List.append_assoc, List.singleton_append, List.drop_one, List.tail_cons, advL, List.zipWith_cons_cons] at ih ⊢
   exact ih)
def advOf (w h : Int) (cs : List Int) (l : List S37) : List S37 := if crewOk w h cs l = true then advL l (stepOf w h cs l) else l
theorem impl_Advance_f (w h : Int) (cs : List Int) (l : List S37) (hB : cs.length ≤ BIG) (hl : l.length ≤ 1048576) : Ev (fun k => impl_Advance.f k w h cs l) (advOf w h cs l) := by
 unfold impl_Advance.f advOf
 have e1 : impl_copyCrew.f l = some l := by
  unfold impl_copyCrew.f
  rw [if_pos (by simp; omega)]; rfl
 simp only [e1, some_bind]
 refine Ev.bind (impl_CrewOk_f w h cs l hB) ?_
 by_cases hc : crewOk w h cs l = true
 ·have h20 := (crewOk_iff.1 hc).2.1
  have hs := stepOf_len hc
  have := impl_Step_f w h cs l hB
  rw [if_pos hc] at this ⊢
  refine Ev.ifp hc (Ev.bind this (Ev.ifp (by omega) ?_))
  have h2 := impl_Advance_l0 (stepOf w h cs l) (by omega) l [] (by simp [hs])
  exact h2
 ·rw [if_neg hc]
  exact Ev.ifn hc (Ev.now _)
theorem robAt_adv {l : List S37} {nx : List Int} (hn : nx.length = l.length) {i : Nat} (hi : i < l.length) : robAt (advL l nx) i = impl_Advance.one (robAt l i) (nx.getD i 0) := by
 unfold robAt advL
 rw [getD_at (by simp; omega), getD_at hi, getD_at (by omega), List.getElem_zipWith]
theorem advL_len {l : List S37} {nx : List Int} (hn : nx.length = l.length) : (advL l nx).length = l.length := by unfold advL; simp [hn]
theorem one_f {r : S37} {v : Int} : (impl_Advance.one r v).f0 = r.f0 ∧ (impl_Advance.one r v).f1 = v ∧ (impl_Advance.one r v).f2 = r.f2 ∧ (impl_Advance.one r v).f3 = r.f3 ∧ (impl_Advance.one r v).f4 = if r.f2 = -1 ∨ v = r.f2 then 0 else min (wrap64 (r.f4 + 1)) 1000000 := by
 unfold impl_Advance.one
 split <;> exact ⟨rfl, rfl, rfl, rfl, rfl⟩
theorem one_age {r : S37} {v : Int} (h0 : 0 ≤ r.f4) (h1 : r.f4 ≤ 1000000) : 0 ≤ (impl_Advance.one r v).f4 ∧ (impl_Advance.one r v).f4 ≤ 1000000 := by
 rw [one_f.2.2.2.2, wrap_id (by omega) (by omega)]
 split <;> omega
theorem adv_ok {w h : Int} {cs : List Int} {l : List S37} (hc : crewOk w h cs l = true) : crewOk w h cs (advL l (stepOf w h cs l)) = true := by
 have T := step_facts hc
 obtain ⟨hf, h20, hr⟩ := crewOk_iff.1 hc
 obtain ⟨_, _, hF⟩ := crew_rob hc
 refine crewOk_iff.2 ⟨hf, by rw [advL_len T.len]; exact h20, fun i hi => ?_⟩
 rw [advL_len T.len] at hi
 obtain ⟨h1, h2, h3⟩ := hr i hi
 obtain ⟨a1, a2, a3, a4⟩ := robotOk_iff.1 h1
 rw [robAt_adv T.len hi]
 obtain ⟨e0, e1, e2, e3, e4⟩ := one_f (r := robAt l i) (v := (stepOf w h cs l).getD i 0)
 refine ⟨robotOk_iff.2 ⟨by rw [e0]; exact a1, by rw [e1]; exact choice_cell (hF i hi) (T.cho i hi), by rw [e2]; exact a3, one_age a4.1 a4.2⟩, ?_, fun k hk => ?_⟩
 ·rw [robAt_adv T.len (show i - 1 < l.length by omega), one_f.1, e0]; exact h2
 ·rw [robAt_adv T.len (show k < l.length by omega), one_f.2.1, e1]
  intro e
  have := T.dis k i (by omega) hi e
  omega

def restsB (r : S37) : Bool := if r.f2 = -1 then true else r.f1 == r.f2
theorem impl_rests_f (r : S37) : impl_rests.f r.f0 r.f1 r.f2 r.f3 r.f4 = some (restsB r) := by unfold impl_rests.f restsB; split <;> rfl
theorem rob_get {l : List S37} {i : Nat} (h : i < l.length) : robAt l i = l[i] := getD_at h
def orRest (was : List Bool) (l : List S37) : List Bool := List.zipWith (fun b r => b || restsB r) was l
def driveF (w h : Int) (cs : List Int) : Nat → List S37 → List Bool → List S37 × List Bool
 | 0, l, was => (l, was)
 | n + 1, l, was => driveF w h cs n (advOf w h cs l) (orRest was (advOf w h cs l))
theorem orRest_len {was : List Bool} {l : List S37} (e : was.length = l.length) : (orRest was l).length = l.length := by unfold orRest; simp [e]
theorem orRest_at {was : List Bool} {l : List S37} (e : was.length = l.length) {i : Nat} (hi : i < l.length) : (orRest was l).getD i false = (was.getD i false || restsB (robAt l i)) := by
 unfold orRest
 rw [getD_at (by simp [e, hi]), getD_at (by omega), rob_get hi, List.getElem_zipWith]
theorem advOf_len {w h : Int} {cs : List Int} {l : List S37} : (advOf w h cs l).length = l.length := by
 unfold advOf
 split
 ·rename_i hc; exact advL_len (step_facts hc).len
 ·rfl
theorem impl_Drive_l2 (w h : Int) (cs : List Int) (x2 c : Int) (nl : List S37) (hB : nl.length ≤ 1048576) (R : List S37 × List Bool) : ∀ (zs ys : List Bool), ys.length + zs.length = nl.length →
  Ev (fun k => impl_Drive.l1 k x2 nl (ys ++ orRest zs (nl.drop ys.length)) (wrap64 (c + 1)) w h cs) R → Ev (fun k => impl_Drive.l2 k x2 nl (ys ++ zs) c nl nl.length (ys.length : Int) w h cs) R
 | [], ys, hl, hR => Ev.unroll (by
   have hl2 : ys.length + 0 = nl.length := hl
   simp only [impl_Drive.l2]
   unfold orRest at hR
   rw [List.zipWith_nil_left] at hR
   exact Ev.ifn (by omega) hR)
 | z :: zs, ys, hl, hR => Ev.unroll (by
   have hl2 : ys.length + (zs.length + 1) = nl.length := by simpa using hl
   have hi : ys.length < nl.length := by omega
   have er : rdOf false (ys ++ z :: zs) (ys.length : Int) = z := by
    unfold rdOf; rw [Int.toNat_natCast, List.getD_eq_getElem?_getD, List.getElem?_append_right (Nat.le_refl _), Nat.sub_self]; rfl
   have ih := impl_Drive_l2 w h cs x2 c nl hB R zs (ys ++ [z || restsB nl[ys.length]]) (by simp; omega)
   rw [drop_cons hi] at hR
   have hR2 := ih (by
    unfold orRest at hR ⊢
    rw [List.zipWith_cons_cons] at hR
    simp only [List.length_append, List.length_singleton, List.append_assoc, List.singleton_append]
    exact hR)
   simp only [impl_Drive.l2, er, rd_rob, impl_rests_f, some_bind, rob_get hi, wrap_sc (show ys.length < 9223372036854775807 by omega), Int.toNat_natCast]
   refine Ev.ifp (by omega) (Ev.ifp (by omega) (Ev.ifp (by omega) (Ev.ifp (by simp; omega) ?_)))
   rw [fill_step ys (z :: zs) true rfl (by simp), fill_step ys (z :: zs) (restsB nl[ys.length]) rfl (by simp)]
   simp only [List.length_append, List.length_singleton, List.drop_one, List.tail_cons] at hR2 ⊢
   cases z with
   | true => exact Ev.ifp rfl (by simpa using hR2)
   | false => exact Ev.ifn (by decide) (by simpa using hR2))
theorem impl_Drive_l1 (w h : Int) (cs : List Int) (hB : cs.length ≤ BIG) (n : Nat) (hn : n ≤ 1000) : ∀ (d c : Nat) (l : List S37) (was : List Bool), c + d = n → l.length ≤ 1048576 → was.length = l.length → Ev (fun k => impl_Drive.l1 k (n : Int) l was (c : Int) w h cs) (driveF w h cs d l was)
 | 0, c, l, was, e, hl, hw => Ev.unroll (by
   simp only [impl_Drive.l1, driveF]
   refine Ev.ifn (by omega) (Ev.unroll ?_)
   simp only [impl_Drive.j2]
   exact Ev.ifn (by decide) (Ev.now _))
 | d + 1, c, l, was, e, hl, hw => Ev.unroll (by
   have hlen := advOf_len (w := w) (h := h) (cs := cs) (l := l)
   have ih := impl_Drive_l1 w h cs hB n hn d (c + 1) (advOf w h cs l) (orRest was (advOf w h cs l)) (by omega) (by omega) (orRest_len (by omega))
   have s1 := impl_Advance_f w h cs l hB hl
   have h2 := impl_Drive_l2 w h cs (n : Int) (c : Int) (advOf w h cs l) (by omega) (driveF w h cs d (advOf w h cs l) (orRest was (advOf w h cs l))) was [] (by simp; omega) (by
    rw [wrap_sc (show c < 9223372036854775807 by omega)]
    exact ih)
   simp only [impl_Drive.l1, driveF]
   refine Ev.ifp (by omega) (Ev.unroll ?_)
   simp only [impl_Drive.j2]
   exact Ev.ifp (decide_eq_true (by omega)) (Ev.bind s1 h2))
theorem impl_Drive_l0 (w h : Int) (cs : List Int) (hB : cs.length ≤ BIG) (n : Nat) (hn : n ≤ 1000) (l : List S37) (hl : l.length ≤ 1048576) : ∀ (d i : Nat) (was : List Bool), i + d = l.length → was = (l.take i).map restsB → Ev (fun k => impl_Drive.l0 k (n : Int) l was l l.length (i : Int) w h cs) (driveF w h cs n l (l.map restsB))
 | 0, i, was, e, hw => Ev.unroll (by
   have h1 := impl_Drive_l1 w h cs hB n hn n 0 l (l.map restsB) (by omega) hl (by simp)
   rw [List.take_of_length_le (by omega)] at hw
   subst hw
   simp only [impl_Drive.l0]
   exact Ev.ifn (by omega) h1)
 | d + 1, i, was, e, hw => Ev.unroll (by
   have hi : i < l.length := by omega
   have ih := impl_Drive_l0 w h cs hB n hn l hl d (i + 1) (was ++ [restsB l[i]]) (by omega) (by rw [List.take_succ_eq_append_getElem hi, List.map_append, hw]; rfl)
   have hwl : was.length ≤ l.length := by rw [hw]; simp; omega
   simp only [impl_Drive.l0, rd_rob, impl_rests_f, some_bind, rob_get hi, wrap_sc (show i < 9223372036854775807 by omega)]
   exact Ev.ifp (by omega) (Ev.ifp (by omega) (Ev.ifp (by omega) (Ev.ifp (by omega) ih))))
theorem impl_Drive_f (w h : Int) (cs : List Int) (hB : cs.length ≤ BIG) (n : Nat) (hn : n ≤ 1000) (l : List S37) (hl : l.length ≤ 1048576) : Ev (fun k => impl_Drive.f k w h cs l (n : Int)) (driveF w h cs n l (l.map restsB)) := by
 unfold impl_Drive.f
 have e1 : impl_copyCrew.f l = some l := by
  unfold impl_copyCrew.f
  rw [if_pos (by simp; omega)]; rfl
 simp only [e1, some_bind]
 exact impl_Drive_l0 w h cs hB n hn l hl l.length 0 [] (by omega) rfl
def advN (w h : Int) (cs : List Int) : Nat → List S37 → List S37
 | 0, l => l
 | n + 1, l => advN w h cs n (advOf w h cs l)
theorem advN_len {w h : Int} {cs : List Int} : ∀ (n : Nat) (l : List S37), (advN w h cs n l).length = l.length
 | 0, l => rfl
 | n + 1, l => by unfold advN; rw [advN_len n, advOf_len]
theorem advN_ok {w h : Int} {cs : List Int} : ∀ (n : Nat) (l : List S37), crewOk w h cs l = true → crewOk w h cs (advN w h cs n l) = true
 | 0, l, hc => hc
 | n + 1, l, hc => by unfold advN advOf; rw [if_pos hc]; exact advN_ok n _ (adv_ok hc)
theorem advN_add {w h : Int} {cs : List Int} : ∀ (a b : Nat) (l : List S37), advN w h cs (a + b) l = advN w h cs b (advN w h cs a l)
 | 0, b, l => by rw [Nat.zero_add]; rfl
 | a + 1, b, l => by rw [show a + 1 + b = (a + b) + 1 by omega]; show advN w h cs (a + b) (advOf w h cs l) = _; rw [advN_add a b]; rfl
def metB (w h : Int) (cs : List Int) (i : Nat) : Nat → List S37 → Bool
 | 0, _ => false
 | n + 1, l => restsB (robAt (advOf w h cs l) i) || metB w h cs i n (advOf w h cs l)
theorem driveF_facts {w h : Int} {cs : List Int} : ∀ (n : Nat) (l : List S37) (was : List Bool), was.length = l.length → (driveF w h cs n l was).1 = advN w h cs n l ∧ (driveF w h cs n l was).2.length = l.length ∧ ∀ i : Nat, i < l.length → (driveF w h cs n l was).2.getD i false = (was.getD i false || metB w h cs i n l)
 | 0, l, was, e => ⟨rfl, e, fun i _ => by unfold driveF metB; rw [Bool.or_false]⟩
 | n + 1, l, was, e => by
   have hlen := advOf_len (w := w) (h := h) (cs := cs) (l := l)
   obtain ⟨h1, h2, h3⟩ := driveF_facts n (advOf w h cs l) (orRest was (advOf w h cs l)) (orRest_len (by omega))
   unfold driveF
   refine ⟨h1, by rw [h2, hlen], fun i hi => ?_⟩
   rw [h3 i (by omega), orRest_at (by omega) (by omega), metB, Bool.or_assoc]
theorem metB_add {w h : Int} {cs : List Int} {i : Nat} : ∀ (a b : Nat) (l : List S37), metB w h cs i (a + b) l = (metB w h cs i a l || metB w h cs i b (advN w h cs a l))
 | 0, b, l => by rw [Nat.zero_add]; unfold metB advN; rw [Bool.false_or]
 | a + 1, b, l => by
   rw [show a + 1 + b = (a + b) + 1 by omega, metB, metB_add a b, metB, Bool.or_assoc]; rfl
def most (b : Int) (d : List Int) : Int := d.foldl (fun m x => if m < x then x else m) b
def widestFrom (w h : Int) (cs : List Int) : Nat → Nat → Int → Int
 | 0, _, b => b
 | d + 1, i, b => widestFrom w h cs d (i + 1) (most b (fieldOf w h cs i false))
def widestOf (w h : Int) (cs : List Int) : Int := if floorOk w h cs = true then widestFrom w h cs cs.length 0 (-1) else -1
theorem impl_Widest_l1 (w h : Int) (cs : List Int) (i : Nat) (d : List Int) (hd : d.length ≤ BIG) (hn : cs.length ≤ BIG) (R : Int) : ∀ (e j : Nat) (b : Int), j + e = d.length →
  Ev (fun k => impl_Widest.l0 k (most b (d.drop j)) cs cs.length ((i + 1 : Nat) : Int) w h cs) R → i < cs.length → Ev (fun k => impl_Widest.l1 k b cs cs.length i d d.length j w h cs) R
 | 0, j, b, he, hR, hi => Ev.unroll (by
   unfold BIG at hn hd
   simp (disch := omega) only [impl_Widest.l1, ↓if_pos, ↓if_neg, if_pos, if_neg, decide_eq_true_eq, ↓reduceIte, ↓wrap_sc, wrap_id, some_bind, Int.toNat_natCast, rd_nat', getD_zero', Bool.not_true, Bool.not_false, Bool.false_eq_true, decide_true, decide_false]
   rw [drop_end (by omega)] at hR
   exact hR)
 | e + 1, j, b, he, hR, hi => Ev.unroll (by
   have hj : j < d.length := by omega
   rw [drop_cons hj] at hR
   have := impl_Widest_l1 w h cs i d hd hn R e (j + 1) (mx b (rd d j)) (by omega) (by unfold mx; rw [rd_nat hj]; exact hR) hi
   unfold BIG at hn hd
   simp only [impl_Widest.l1]
   refine Ev.ifp (by omega) (Ev.ifp (by omega) (Ev.ifp (by omega) ?_))
   rw [wrap_sc (by omega)]
   exact this)
theorem impl_Widest_l0 (w h : Int) (cs : List Int) (hf : floorOk w h cs = true) : ∀ (d i : Nat) (b : Int), i + d = cs.length → Ev (fun k => impl_Widest.l0 k b cs cs.length i w h cs) (widestFrom w h cs d i b)
 | 0, i, b, e => Ev.unroll (by
   simp (disch := omega) only [impl_Widest.l0, ↓if_pos, ↓if_neg, if_pos, if_neg, decide_eq_true_eq, ↓reduceIte, ↓wrap_sc, wrap_id, some_bind, Int.toNat_natCast, rd_nat', getD_zero', Bool.not_true, Bool.not_false, Bool.false_eq_true, decide_true, decide_false]
   exact Ev.now _)
 | d + 1, i, b, e => Ev.unroll (by
   have hn := floorOk_area hf
   have hk := kindAt_rd hf (show (0 : Int) ≤ (i : Int) by omega) (by omega)
   simp only [impl_Widest.l0]
   refine Ev.ifp (by omega) (Ev.ifp (by omega) (Ev.ifp (by omega) ?_))
   unfold widestFrom fieldOf
   by_cases h0 : rd cs i = 0
   ·refine Ev.ifp h0 ?_
    rw [hk, if_pos h0, wrap_sc (by omega)]
    exact impl_Widest_l0 w h cs hf d (i + 1) b (by omega)
   ·have hl := fieldL_length (dst := i) (ld := false) hf (by omega) (by omega)
    refine Ev.ifn h0 (Ev.bind (impl_field_f w h cs i false hf (by omega) (by omega)) ?_)
    rw [hk, if_neg h0]
    exact impl_Widest_l1 w h cs i _ (by unfold BIG; omega) (by unfold BIG; omega) _ (fieldL w h cs i false).length 0 b (by omega) (impl_Widest_l0 w h cs hf d (i + 1) _ (by omega)) (by omega))
theorem impl_Widest_f (w h : Int) (cs : List Int) (hn : cs.length ≤ BIG) : Ev (fun k => impl_Widest.f k w h cs) (widestOf w h cs) := by
 unfold impl_Widest.f widestOf
 refine Ev.bind (impl_FloorOk_f w h cs hn) (ev_ite (fun hf => impl_Widest_l0 w h cs hf cs.length 0 (-1) (by omega)) (fun _ => Ev.now _))

theorem most_ge : ∀ (d : List Int) (b : Int), b ≤ most b d ∧ ∀ x ∈ d, x ≤ most b d
 | [], b => ⟨Int.le_refl _, by simp⟩
 | y :: d, b => by
  have ih := most_ge d (if b < y then y else b)
  unfold most at ih ⊢
  rw [List.foldl_cons]
  refine ⟨?_, fun x hx => ?_⟩
  ·have := ih.1; split at this <;> split <;> omega
  ·rcases List.mem_cons.1 hx with rfl | hx
   ·have := ih.1; split at this <;> split <;> omega
   ·exact ih.2 x hx
theorem widest_ge (w h : Int) (cs : List Int) : ∀ (d i : Nat) (b : Int), b ≤ widestFrom w h cs d i b ∧ ∀ j : Nat, i ≤ j → j < i + d → ∀ x ∈ fieldOf w h cs j false, x ≤ widestFrom w h cs d i b
 | 0, i, b => ⟨Int.le_refl _, fun j h1 h2 => by omega⟩
 | d + 1, i, b => by
  have ih := widest_ge w h cs d (i + 1) (most b (fieldOf w h cs i false))
  have hm := most_ge (fieldOf w h cs i false) b
  unfold widestFrom
  refine ⟨Int.le_trans hm.1 ih.1, fun j h1 h2 x hx => ?_⟩
  by_cases e : j = i
  ·subst e; exact Int.le_trans (hm.2 x hx) ih.1
  ·exact ih.2 j (by omega) (by omega) x hx
theorem most_le (n : Int) : ∀ (d : List Int) (b : Int), b ≤ n → (∀ x ∈ d, x ≤ n) → most b d ≤ n
 | [], b, hb, _ => hb
 | y :: d, b, hb, hd => by
  unfold most
  rw [List.foldl_cons]
  exact most_le n d _ (by have := hd y (by simp); split <;> omega) (fun x hx => hd x (by simp [hx]))
theorem widestOf_ge {w h : Int} {cs : List Int} (hf : floorOk w h cs = true) {a b : Int} (ha : 0 ≤ a ∧ a < (cs.length : Int)) (hb : Cell cs b) : rd (fieldL w h cs b false) a ≤ widestOf w h cs := by
 unfold widestOf
 rw [if_pos hf]
 have hk := kindAt_rd hf hb.1 hb.2.1
 have hl := fieldL_length (ld := false) hf hb.1 hb.2.1
 refine (widest_ge w h cs cs.length 0 (-1)).2 b.toNat (by omega) (by have := hb.2.1; have := hb.1; omega) _ ?_
 rw [Int.toNat_of_nonneg hb.1]
 unfold fieldOf
 rw [if_neg (by rw [hk]; exact hb.2.2)]
 unfold rd
 rw [getD_at (by omega)]
 exact List.getElem_mem _
theorem widest_le {w h : Int} {cs : List Int} (hf : floorOk w h cs = true) : ∀ (d i : Nat) (b : Int), i + d = cs.length → b ≤ (cs.length : Int) - 1 → widestFrom w h cs d i b ≤ (cs.length : Int) - 1
 | 0, i, b, _, hb => hb
 | d + 1, i, b, he, hb => by
  unfold widestFrom
  refine widest_le hf d (i + 1) _ (by omega) (most_le _ _ _ hb fun x hx => ?_)
  unfold fieldOf at hx
  split at hx
  ·cases hx
  ·have B := field_B hf (show (0 : Int) ≤ (i : Int) by omega) (show (i : Int) < (cs.length : Int) by omega)
   obtain ⟨j, hj, e⟩ := List.getElem_of_mem hx
   have hl := fieldL_length (ld := false) hf (show (0 : Int) ≤ (i : Int) by omega) (show (i : Int) < (cs.length : Int) by omega)
   have := B.below ⟨by omega, by omega⟩ (j : Int) (by omega) (by omega)
   rw [rd_nat hj, e] at this
   omega
theorem widestOf_le {w h : Int} {cs : List Int} (hf : floorOk w h cs = true) (h0 : 0 < cs.length) : widestOf w h cs ≤ (cs.length : Int) - 1 := by
 unfold widestOf
 rw [if_pos hf]
 exact widest_le hf cs.length 0 (-1) (by omega) (by omega)
theorem widest_pos {w h : Int} {cs : List Int} (hs : soundOf w h cs = true) : 1 ≤ widestOf w h cs := by
 obtain ⟨ht, h4, _⟩ := sound_facts hs
 obtain ⟨hf, hall⟩ := together_all ht
 have ca := first_cell (cs := cs) (by omega)
 have h1 := openN_set ca
 have cb2 := first_cell (cs := cs.set (firstOpen cs 0).toNat 0) (by omega)
 have cb := (cell_set ca).1 cb2
 generalize firstOpen (cs.set (firstOpen cs 0).toNat 0) 0 = b at cb
 generalize firstOpen cs 0 = a at ca cb
 have hge := widestOf_ge hf ⟨cb.1.1, cb.1.2.1⟩ ca
 have hr := (field_reach hf ca.1 ca.2.1 cb.1.1 cb.1.2.1).2 (hall _ _ ca cb.1)
 have hz := (field_B hf ca.1 ca.2.1).only b cb.1.1 cb.1.2.1
 by_cases e : rd (fieldL w h cs a false) b = 0
 ·exact absurd (hz e) cb.2
 ·omega
theorem restsB_iff {r : S37} : restsB r = true ↔ (r.f2 = -1 ∨ r.f1 = r.f2) := by
 unfold restsB
 split
 ·rename_i h1; simp [h1]
 ·rename_i h1
  rw [beq_iff_eq]
  exact ⟨Or.inr, fun h2 => h2.resolve_left h1⟩
theorem advN_next {w h : Int} {cs : List Int} (t : Nat) (l : List S37) : advN w h cs (t + 1) l = advOf w h cs (advN w h cs t l) := advN_add t 1 l
theorem metB_next {w h : Int} {cs : List Int} {i : Nat} (t : Nat) (l : List S37) : metB w h cs i (t + 1) l = (metB w h cs i t l || restsB (robAt (advN w h cs (t + 1) l) i)) := by
 rw [metB_add t 1 l, advN_next]
 unfold metB metB
 rw [Bool.or_false]
theorem metB_mono {w h : Int} {cs : List Int} {i : Nat} {l : List S37} : ∀ (d t : Nat), metB w h cs i t l = true → metB w h cs i (t + d) l = true
 | 0, t, hm => hm
 | d + 1, t, hm => by
   rw [show t + (d + 1) = (t + d) + 1 by omega, metB_next, metB_mono d t hm, Bool.true_or]
structure GoesOn (w h : Int) (cs : List Int) (l : List S37) (t : Nat) (i : Nat) : Prop where
 id : (robAt (advN w h cs t l) i).f0 = (robAt l i).f0
 goal : (robAt (advN w h cs t l) i).f2 = (robAt l i).f2
 low : (robAt (advN w h cs t l) i).f3 = false
 age0 : 0 ≤ (robAt (advN w h cs t l) i).f4
 age1 : (robAt (advN w h cs t l) i).f4 ≤ (t : Int)
 old : (robAt (advN w h cs t l) i).f4 = (t : Int) ↔ metB w h cs i t l = false
theorem goesOn {w h : Int} {cs : List Int} {l : List S37} (L : LivelyC w h cs l) {i : Nat} (hi : i < l.length) : ∀ t : Nat, t ≤ 1000 → GoesOn w h cs l t i
 | 0, _ => ⟨rfl, rfl, L.low i hi, by show 0 ≤ (robAt l i).f4; rw [L.age i hi]; omega, by show (robAt l i).f4 ≤ _; rw [L.age i hi]; omega, by show (robAt l i).f4 = _ ↔ _; rw [L.age i hi]; unfold metB; simp⟩
 | t + 1, ht => by
   have G := goesOn L hi t (by omega)
   have hc := advN_ok t l L.ok
   have hl := advN_len (w := w) (h := h) (cs := cs) t l
   have T := step_facts hc
   have e : robAt (advN w h cs (t + 1) l) i = impl_Advance.one (robAt (advN w h cs t l) i) ((stepOf w h cs (advN w h cs t l)).getD i 0) := by
    rw [advN_next]
    unfold advOf
    rw [if_pos hc, robAt_adv T.len (by omega)]
   have hm := metB_next (w := w) (h := h) (cs := cs) (i := i) t l
   obtain ⟨o0, o1, o2, o3, o4⟩ := one_f (r := robAt (advN w h cs t l) i) (v := (stepOf w h cs (advN w h cs t l)).getD i 0)
   rw [← e] at o0 o1 o2 o3 o4
   have a0 := G.age0
   have a1 := G.age1
   rw [wrap_id (by omega) (by omega)] at o4
   have hr : restsB (robAt (advN w h cs (t + 1) l) i) = true ↔ ((robAt (advN w h cs t l) i).f2 = -1 ∨ (stepOf w h cs (advN w h cs t l)).getD i 0 = (robAt (advN w h cs t l) i).f2) := by rw [restsB_iff, o1, o2]
   by_cases hrest : ((robAt (advN w h cs t l) i).f2 = -1 ∨ (stepOf w h cs (advN w h cs t l)).getD i 0 = (robAt (advN w h cs t l) i).f2)
   ·rw [if_pos hrest] at o4
    refine ⟨by rw [o0]; exact G.id, by rw [o2]; exact G.goal, by rw [o3]; exact G.low, by omega, by omega, ?_⟩
    rw [hm, hr.2 hrest, Bool.or_true, o4]
    simp
    omega
   ·rw [if_neg hrest] at o4
    have hr0 : restsB (robAt (advN w h cs (t + 1) l) i) = false := by rw [← Bool.not_eq_true]; exact fun h => hrest (hr.1 h)
    refine ⟨by rw [o0]; exact G.id, by rw [o2]; exact G.goal, by rw [o3]; exact G.low, by omega, by omega, ?_⟩
    rw [hm, hr0, Bool.or_false, ← G.old]
    omega
theorem old_first {w h : Int} {cs : List Int} {l : List S37} (L : LivelyC w h cs l) {t k : Nat} (ht : t ≤ 1000) (hk : k < l.length) (hold : metB w h cs k t l = false) (hlow : ∀ i, i < k → metB w h cs i t l = true) : ∃ ts, turnsOf (advN w h cs t l) = (k : Int) :: ts := by
 have hl := advN_len (w := w) (h := h) (cs := cs) t l
 have hids : ∀ i j : Nat, i < j → j < l.length → (robAt l i).f0 < (robAt l j).f0 := by
  have h1 := (crewOk_iff.1 L.ok).2.2
  intro i j hij
  induction j with
  | zero => omega
  | succ j ih =>
   intro hj
   have h2 := (h1 (j + 1) hj).2.1.resolve_left (by omega)
   rw [show j + 1 - 1 = j by omega] at h2
   by_cases e : i = j
   ·rw [e]; exact h2
   ·have := ih (by omega) (by omega); omega
 have Gk := goesOn L hk t ht
 have S := turns_sorted (advN w h cs t l)
 have hlt : ∀ j : Nat, j < l.length → j ≠ k → turnsLt (advN w h cs t l) (k : Int) (j : Int) = true := fun j hj hjk => by
  have Gj := goesOn L hj t ht
  rw [turnsLt_eq, rd_rob, rd_rob, Gk.id, Gj.id, Gk.old.2 hold]
  have a1 := Gj.age1
  by_cases e : (robAt (advN w h cs t l) j).f4 = (t : Int)
  ·refine Or.inr ⟨e.symm, ?_⟩
   have hj2 := Gj.old.1 e
   have hkj : k < j := by
    rcases Nat.lt_trichotomy j k with h1 | h1 | h1
    ·rw [hlow j h1] at hj2; cases hj2
    ·exact absurd h1 hjk
    ·exact h1
   exact hids k j hkj hj
  ·exact Or.inl (by omega)
 match e : turnsOf (advN w h cs t l) with
 | [] =>
  have := turnsOf_len (l := advN w h cs t l)
  rw [e, hl] at this
  simp at this
  omega
 | x :: ts =>
  have hx := turnsOf_in (l := advN w h cs t l) x (by rw [e]; simp)
  rw [hl] at hx
  obtain ⟨j, rfl⟩ : ∃ j : Nat, x = (j : Int) := ⟨x.toNat, by omega⟩
  by_cases hjk : j = k
  ·rw [hjk]; exact ⟨ts, rfl⟩
  ·exfalso
   have hm : (k : Int) ∈ turnsOf (advN w h cs t l) := (S.mem _).2 (upto_mem'.2 (by omega))
   have ho := S.ord
   rw [e] at hm ho
   rw [List.pairwise_cons] at ho
   rcases List.mem_cons.1 hm with h1 | h1
   ·omega
   ·have h2 := ho.1 _ h1
    rw [hlt j (by omega) hjk] at h2
    cases h2
def distB (w h : Int) (cs : List Int) (r : S37) : Int := if restsB r = true then 0 else rd (fieldL w h cs r.f2 false) r.f1
theorem old_meets {w h : Int} {cs : List Int} {l : List S37} (L : LivelyC w h cs l) {k : Nat} (hk : k < l.length) : ∀ (d t : Nat), t + d + 1 ≤ 1000 → metB w h cs k t l = false → (∀ i, i < k → metB w h cs i t l = true) → distB w h cs (robAt (advN w h cs t l) k) ≤ (d : Int) + 1 → metB w h cs k (t + d + 1) l = true := by
 intro d
 induction d with
 | zero =>
  intro t ht hold hlow hd
  obtain ⟨ts, et⟩ := old_first L (by omega) hk hold hlow
  have hc := advN_ok t l L.ok
  have hl := advN_len (w := w) (h := h) (cs := cs) t l
  have T := step_facts hc
  obtain ⟨_, _, hr⟩ := crew_rob hc
  have F := hr k (by omega)
  obtain ⟨v, rest, hv, hn, hstay, hnear⟩ := first_choice L.sound F (goesOn L hk t (by omega)).low
  have hgot := first_gets hc L.sound (fun i hi => (goesOn L (by omega) t (by omega)).low) (by omega) et hv hn
  have e : robAt (advN w h cs (t + 1) l) k = impl_Advance.one (robAt (advN w h cs t l) k) v := by
   rw [advN_next]
   unfold advOf
   rw [if_pos hc, robAt_adv T.len (by omega), hgot]
  rw [show t + 0 + 1 = t + 1 by omega, metB_next, hold, Bool.false_or, restsB_iff, e, one_f.2.1, one_f.2.2.1]
  unfold distB at hd
  by_cases hrest : restsB (robAt (advN w h cs t l) k) = true
  ·have h2 := restsB_iff.1 hrest
   rw [hstay h2]; exact h2
  ·rw [if_neg hrest] at hd
   rw [restsB_iff, not_or] at hrest
   have hnv := hnear hrest.1 hrest.2
   have hst := standB_iff.1 F.stand
   have hgc : cellB cs (robAt (advN w h cs t l) k).f2 = true := by rcases hst.2 with h1 | h1; exact absurd h1 hrest.1; exact h1
   have hgr := cellB_iff.1 hgc
   have hvc := F.ch0 v (by rw [hv]; simp)
   have hf := (crewOk_iff.1 hc).1
   have B := field_B hf hgr.1.1 hgr.1.2
   have r1 := B.low v hvc.1 hvc.2
   have hat := (cellB_iff.1 hst.1)
   have ra := (field_reach hf hgr.1.1 hgr.1.2 hat.1.1 hat.1.2).2 ((together_all (sound_facts L.sound).1).2 _ _ ⟨hgr.1.1, hgr.1.2, hgr.2⟩ ⟨hat.1.1, hat.1.2, hat.2⟩)
   have ra0 : rd (fieldL w h cs (robAt (advN w h cs t l) k).f2 false) (robAt (advN w h cs t l) k).f1 ≠ 0 := fun h0 => hrest.2 (B.only _ hat.1.1 hat.1.2 h0)
   exact Or.inr (B.only v hvc.1 hvc.2 (by omega))
 | succ d ih =>
  intro t ht hold hlow hd
  obtain ⟨ts, et⟩ := old_first L (by omega) hk hold hlow
  have hc := advN_ok t l L.ok
  have hl := advN_len (w := w) (h := h) (cs := cs) t l
  have T := step_facts hc
  obtain ⟨_, _, hr⟩ := crew_rob hc
  have F := hr k (by omega)
  obtain ⟨v, rest, hv, hn, hstay, hnear⟩ := first_choice L.sound F (goesOn L hk t (by omega)).low
  have hgot := first_gets hc L.sound (fun i hi => (goesOn L (by omega) t (by omega)).low) (by omega) et hv hn
  have e : robAt (advN w h cs (t + 1) l) k = impl_Advance.one (robAt (advN w h cs t l) k) v := by
   rw [advN_next]
   unfold advOf
   rw [if_pos hc, robAt_adv T.len (by omega), hgot]
  by_cases hnow : metB w h cs k (t + 1) l = true
  ·rw [show t + (d + 1) + 1 = (t + 1) + (d + 1) by omega]
   exact metB_mono (d + 1) (t + 1) hnow
  rw [Bool.not_eq_true] at hnow
  have hn2 := hnow
  rw [metB_next, hold, Bool.false_or] at hn2
  rw [show t + (d + 1) + 1 = (t + 1) + d + 1 by omega]
  refine ih (t + 1) (by omega) hnow (fun i hi => metB_mono 1 t (hlow i hi)) ?_
  unfold distB at hd ⊢
  rw [if_neg (by rw [hn2]; decide), e, one_f.2.1, one_f.2.2.1]
  have hn3 : ¬ ((robAt (advN w h cs t l) k).f2 = -1 ∨ v = (robAt (advN w h cs t l) k).f2) := by
   rw [← Bool.not_eq_true, restsB_iff, e, one_f.2.1, one_f.2.2.1] at hn2
   exact hn2
  by_cases hrest : restsB (robAt (advN w h cs t l) k) = true
  ·exfalso
   have h2 := restsB_iff.1 hrest
   apply hn3
   rw [hstay h2]; exact h2
  ·rw [if_neg hrest] at hd
   rw [restsB_iff, not_or] at hrest
   have hnv := hnear hrest.1 hrest.2
   omega
theorem all_meet {w h : Int} {cs : List Int} {l : List S37} (L : LivelyC w h cs l) (W : Nat) (hW : (W : Int) = widestOf w h cs) : ∀ k : Nat, k ≤ l.length → k * W ≤ 1000 → ∀ i, i < k → metB w h cs i (k * W) l = true := by
 have h1 := widest_pos L.sound
 intro k
 induction k with
 | zero => intro _ _ i hi; omega
 | succ k ih =>
  intro hk hb i hi
  have hkW : (k + 1) * W = k * W + W := Nat.succ_mul k W
  have hlow := ih (by omega) (by omega)
  have hmono : ∀ j, metB w h cs j (k * W) l = true → metB w h cs j ((k + 1) * W) l = true := fun j hj => by rw [hkW]; exact metB_mono W _ hj
  by_cases hik : i < k
  ·exact hmono i (hlow i hik)
  ·obtain rfl : i = k := by omega
   by_cases hold : metB w h cs i (i * W) l = true
   ·exact hmono i hold
   ·rw [Bool.not_eq_true] at hold
    have hd : distB w h cs (robAt (advN w h cs (i * W) l) i) ≤ ((W - 1 : Nat) : Int) + 1 := by
     unfold distB
     by_cases hrest : restsB (robAt (advN w h cs (i * W) l) i) = true
     ·rw [if_pos hrest]; omega
     ·rw [if_neg hrest]
      rw [restsB_iff, not_or] at hrest
      have hc := advN_ok (i * W) l L.ok
      have hl := advN_len (w := w) (h := h) (cs := cs) (i * W) l
      obtain ⟨hf, _, hr⟩ := crew_rob hc
      have F := hr i (by omega)
      have hst := standB_iff.1 F.stand
      have hgc : cellB cs (robAt (advN w h cs (i * W) l) i).f2 = true := by rcases hst.2 with h1 | h1; exact absurd h1 hrest.1; exact h1
      have hgr := cellB_iff.1 hgc
      have hat := cellB_iff.1 hst.1
      have := widestOf_ge hf hat.1 (b := (robAt (advN w h cs (i * W) l) i).f2) ⟨hgr.1.1, hgr.1.2, hgr.2⟩
      omega
    have := old_meets L (by omega) (W - 1) (i * W) (by omega) hold hlow hd
    rw [show i * W + (W - 1) + 1 = (i + 1) * W by omega] at this
    exact this
theorem fnlively_l0 (w h : Int) (cs : List Int) (hB : cs.length ≤ BIG) (l la : List S37) (m : List Bool) (h20 : l.length ≤ 20) (hm : m.length = l.length) (hla : la.length = l.length) (hok : crewOk w h cs la = true) (hall : ∀ i : Nat, i < l.length → m.getD i false = true) : ∀ (d i : Nat), i + d = l.length → Ev (fun k => laws_FnLively.l0 k l la m (i : Int) w h cs) true
 | 0, i, e => Ev.unroll (by
   have h1 := impl_CrewOk_f w h cs la hB
   rw [hok] at h1
   simp only [laws_FnLively.l0]
   exact Ev.ifn (by omega) (Ev.ifp (by omega) (Ev.ifp (by omega) (Ev.bind h1 (Ev.now _)))))
 | d + 1, i, e => Ev.unroll (by
   have ih := fnlively_l0 w h cs hB l la m h20 hm hla hok hall d (i + 1) (by omega)
   have ho : rdOf false m (i : Int) = true := by unfold rdOf; rw [Int.toNat_natCast]; exact hall i (by omega)
   simp only [laws_FnLively.l0, wrap_sc (show i < 9223372036854775807 by omega)]
   exact Ev.ifp (by omega) (Ev.ifp (by omega) (Ev.ifp ho ih)))
theorem FnLively : laws_FnLively.Pure := by
 intro b hm hb2 _
 refine Ev.rounds ?_
 unfold laws_FnLively.f
 simp only [laws_big.f, some_bind, decide_eq_true_eq]
 refine ev_ite' (fun _ => Ev.now _) (fun hbig => ?_)
 obtain ⟨w, h, cs, l, e, L⟩ := DrawLively_ok b (by omega)
 have hlen := L.len
 have hB : cs.length ≤ BIG := by unfold BIG; omega
 have h20 := (crewOk_iff.1 L.ok).2.1
 have hf := (crewOk_iff.1 L.ok).1
 have s1 := impl_Sound_f w h cs (by omega)
 rw [L.sound] at s1
 have s2 := impl_Widest_f w h cs hB
 have w1 := widest_pos L.sound
 have w2 := widestOf_le hf (by
  have := (sound_facts L.sound).2.1
  refine Nat.pos_of_ne_zero fun h0 => ?_
  rw [List.length_eq_zero_iff.1 h0] at this
  simp [openN] at this)
 obtain ⟨W, hW⟩ : ∃ W : Nat, (W : Int) = widestOf w h cs := ⟨(widestOf w h cs).toNat, by omega⟩
 have hWn : l.length * W ≤ 20 * 41 := Nat.mul_le_mul h20 (by omega)
 have s3 := impl_Drive_f w h cs hB (l.length * W) (by omega) l (by omega)
 obtain ⟨a1, a2, a3⟩ := driveF_facts (w := w) (h := h) (cs := cs) (l.length * W) l (l.map restsB) (by simp)
 refine Ev.bind e (Ev.bind s1 (Ev.ifp rfl (Ev.bind s2 ?_)))
 rw [← hW, show wrap64 ((l.length : Int) * (W : Int)) = ((l.length * W : Nat) : Int) by rw [wrap_id (by rw [← Int.natCast_mul]; omega) (by rw [← Int.natCast_mul]; omega), Int.natCast_mul]]
 refine Ev.bind s3 ?_
 refine fnlively_l0 w h cs hB l _ _ h20 a2 (by rw [a1, advN_len]) (by rw [a1]; exact advN_ok _ l L.ok) (fun i hi => ?_) l.length 0 (by omega)
 rw [a3 i hi, all_meet L W hW l.length (Nat.le_refl _) (by omega) i hi, Bool.or_true]

end Go.Proofs.Ytankmdbbgepmbaa.Pure
