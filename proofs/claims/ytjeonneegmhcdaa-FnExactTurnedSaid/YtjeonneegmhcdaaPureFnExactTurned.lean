/- Proved here: the law FnExactTurned, over numbers and lists: for all arguments it returns true; no condition. -/
import Derived.Test.YtjeonneegmhcdaaPFnExactTurnedx5
namespace Go.Proofs.Ytjeonneegmhcdaa.Pure
open Go.RowKit Go.Proofs.Ytjeonneegmhcdaa.PFnExactTurned Go.Proofs.YtjeonneegmhcdaaW.PrintWords Go.Proofs.YtjeonneegmhcdaaW.PrintLast
set_option linter.unusedVariables false
set_option linter.unusedSimpArgs false

/-! #### base -/
/-! Words of this session: rounds, whole numbers in their bounds, reading by index. -/
theorem Ev.unroll {α : Type} {g : Nat → Option α} {r : α} (h : Ev (fun k => g (k + 1)) r) : Ev g r := Ev.step (fun _ => rfl) h
theorem Ev.const {α : Type} {x : Option α} {r : α} (h : x = some r) : Ev (fun _ => x) r := ⟨0, fun _ _ => h⟩
theorem Ev.fin {α : Type} {r s : α} (h : r = s) : Ev (fun _ => some r) s := by rw [h]; exact Ev.now _
theorem wrap_id {x : Int} (h0 : -9223372036854775808 ≤ x) (h1 : x ≤ 9223372036854775807) : wrap64 x = x := by unfold wrap64; omega
/-- The bound of all lengths here. -/
abbrev BIG : Nat := 4611686018427387904
theorem wrap_succ {i n : Nat} (h : i < n) (hn : n ≤ BIG) : wrap64 ((i : Int) + 1) = ((i + 1 : Nat) : Int) := by unfold wrap64; unfold BIG at hn; omega
theorem wrap_pred {i n : Nat} (h : i < n) (h0 : 0 < i) (hn : n ≤ BIG) : wrap64 ((i : Int) - 1) = ((i - 1 : Nat) : Int) := by unfold wrap64; unfold BIG at hn; omega
theorem rd_nat {xs : List Int} {i : Nat} (h : i < xs.length) : rd xs (i : Int) = xs[i] := by unfold rd; simp [List.getD, h]
theorem getD_nat {α : Type} {xs : List α} {d : α} {i : Nat} (h : i < xs.length) : xs.getD (i : Int).toNat d = xs[i] := by simp [List.getD, h]
theorem getD_zero {α : Type} {xs : List α} {d : α} (h : 0 < xs.length) : xs.getD (0 : Int).toNat d = xs[0] := by simp [List.getD, h]
theorem drop_cons {α : Type} {xs : List α} {i : Nat} (h : i < xs.length) : xs.drop i = xs[i] :: xs.drop (i + 1) := List.drop_eq_getElem_cons h
theorem drop_end {α : Type} {xs : List α} {i : Nat} (h : xs.length ≤ i) : xs.drop i = [] := List.drop_of_length_le h
/-- A list filled from the front, by index. -/
theorem fill_step {α : Type} (ys zs : List α) (x : α) {i : Nat} (hi : i = ys.length) (hz : 0 < zs.length) : (ys ++ zs).set i x = (ys ++ [x]) ++ zs.drop 1 := by
  subst hi
  match zs, hz with
  | z :: zs, _ => simp
theorem set_id {α : Type} (xs : List α) (i : Nat) (h : i < xs.length) : xs.set i xs[i] = xs := by
  apply List.ext_getElem
  · simp
  · intro j h1 h2
    rw [List.getElem_set]
    split
    · rename_i e; subst e; rfl
    · rfl
theorem some_bind {α β : Type} (a : α) (f : α → Option β) : (some a).bind f = f a := rfl
theorem getD_at {α : Type} {xs : List α} {d : α} {i : Nat} (h : i < xs.length) : xs.getD i d = xs[i] := by simp [List.getD, h]
/-- All places from i on, below n. -/
def allFrom (n i : Nat) (p : Nat → Bool) : Bool := (List.range' i (n - i)).all p
theorem allFrom_end {n i : Nat} {p : Nat → Bool} (h : n ≤ i) : allFrom n i p = true := by
  unfold allFrom
  rw [show n - i = 0 by omega]; rfl
theorem allFrom_step {n i : Nat} {p : Nat → Bool} (h : i < n) : allFrom n i p = (p i && allFrom n (i + 1) p) := by
  unfold allFrom
  rw [show n - i = (n - (i + 1)) + 1 by omega, List.range'_succ, List.all_cons]
theorem allFrom_no {n i : Nat} {p : Nat → Bool} (h : i < n) (hp : p i = false) : allFrom n i p = false := by rw [allFrom_step h, hp, Bool.false_and]
theorem allFrom_yes {n i : Nat} {p : Nat → Bool} (h : i < n) (hp : p i = true) : allFrom n i p = allFrom n (i + 1) p := by rw [allFrom_step h, hp, Bool.true_and]
theorem allFrom_iff {n i : Nat} {p : Nat → Bool} : allFrom n i p = true ↔ ∀ j, i ≤ j → j < n → p j = true := by
  unfold allFrom
  rw [List.all_eq_true]
  constructor
  · intro h j h1 h2
    exact h j (by rw [List.mem_range'_1]; omega)
  · intro h j hj
    rw [List.mem_range'_1] at hj
    exact h j hj.1 (by omega)
theorem itd_pos {α : Type} {p : Prop} [Decidable p] (h : p) {a b : α} : (if decide p = true then a else b) = a := if_pos (decide_eq_true h)
theorem itd_neg {α : Type} {p : Prop} [Decidable p] (h : ¬ p) {a b : α} : (if decide p = true then a else b) = b := if_neg (by rw [decide_eq_false h]; decide)
/-- The places from i on, below n, that p holds of. -/
def filtFrom (n i : Nat) (p : Nat → Bool) : List Int := ((List.range' i (n - i)).filter p).map (fun j : Nat => (j : Int))
theorem filtFrom_end {n i : Nat} {p : Nat → Bool} (h : n ≤ i) : filtFrom n i p = [] := by
  unfold filtFrom
  rw [show n - i = 0 by omega]; rfl
theorem filtFrom_yes {n i : Nat} {p : Nat → Bool} (h : i < n) (hp : p i = true) : filtFrom n i p = (i : Int) :: filtFrom n (i + 1) p := by
  unfold filtFrom
  rw [show n - i = (n - (i + 1)) + 1 by omega, List.range'_succ, List.filter_cons, if_pos hp, List.map_cons]
theorem filtFrom_no {n i : Nat} {p : Nat → Bool} (h : i < n) (hp : p i = false) : filtFrom n i p = filtFrom n (i + 1) p := by
  unfold filtFrom
  rw [show n - i = (n - (i + 1)) + 1 by omega, List.range'_succ, List.filter_cons, if_neg (by rw [hp]; decide)]
theorem filtFrom_le {n i : Nat} {p : Nat → Bool} : (filtFrom n i p).length ≤ n - i := by
  unfold filtFrom
  rw [List.length_map]
  exact Nat.le_trans (List.length_filter_le _ _) (by simp)
theorem mem_filtFrom {n i : Nat} {p : Nat → Bool} {x : Int} : x ∈ filtFrom n i p ↔ ∃ j : Nat, i ≤ j ∧ j < n ∧ p j = true ∧ x = (j : Int) := by
  unfold filtFrom
  simp only [List.mem_map, List.mem_filter, List.mem_range'_1]
  constructor
  · rintro ⟨j, ⟨⟨h1, h2⟩, h3⟩, rfl⟩; exact ⟨j, h1, by omega, h3, rfl⟩
  · rintro ⟨j, h1, h2, h3, rfl⟩; exact ⟨j, ⟨⟨h1, by omega⟩, h3⟩, rfl⟩
theorem wrap_sc {i : Nat} (h : i < 9223372036854775807) : wrap64 ((i : Int) + 1) = ((i + 1 : Nat) : Int) := by unfold wrap64; omega
theorem rd_nat' {xs : List Int} {i : Nat} : rd xs (i : Int) = xs.getD i 0 := by unfold rd; rw [Int.toNat_natCast]
theorem getD_zero' {α : Type} {xs : List α} {d : α} : xs.getD (0 : Int).toNat d = xs.getD 0 d := rfl
theorem Bool.ite_tf (b : Bool) : (if b = true then true else false) = b := by cases b <;> rfl
theorem ev_ite {α : Type} {c : Prop} [Decidable c] {g h : Nat → Option α} {r s : α} (h1 : c → Ev g r) (h2 : ¬ c → Ev h s) : Ev (fun k => if c then g k else h k) (if c then r else s) := by
  by_cases hc : c
  · simp only [if_pos hc]; exact h1 hc
  · simp only [if_neg hc]; exact h2 hc
theorem Ev.ifp {α : Type} {c : Prop} [Decidable c] {g h : Nat → Option α} {r : α} (hc : c) (e : Ev g r) : Ev (fun k => if c then g k else h k) r := by simp only [if_pos hc]; exact e
theorem Ev.ifn {α : Type} {c : Prop} [Decidable c] {g h : Nat → Option α} {r : α} (hc : ¬ c) (e : Ev h r) : Ev (fun k => if c then g k else h k) r := by simp only [if_neg hc]; exact e

/-! #### Ints -/
theorem szIntS_f (l : List Int) (b : Int) (h : l.length ≤ 9223372036854775807) (h0 : 0 ≤ b) (h1 : b ≤ 1048576) : laws_szIntS.f l b = some (if (l.length : Int) ≤ b then b - (l.length : Int) else -1) := by
  unfold laws_szIntS.f
  rw [wrap_id (by omega) (by omega)]
  split <;> split <;> first | rfl | omega
theorem toIntS_l0 (xs : List Int) (hn : xs.length ≤ 1048576) : ∀ (d i : Nat) (ys zs : List Int), i + d = xs.length → ys.length = i → zs.length = d → ys = xs.take i → Ev (fun k => laws_toIntS.l0 k xs (ys ++ zs) i) xs
  | 0, i, ys, zs, h, hy, hz, e => Ev.unroll (by
      simp only [laws_toIntS.l0]
      simp only [if_neg (show ¬ (i : Int) < xs.length by omega)]
      obtain rfl := List.length_eq_zero_iff.1 hz
      rw [e, List.take_of_length_le (by omega), List.append_nil]
      exact Ev.now _)
  | d + 1, i, ys, zs, h, hy, hz, e => Ev.unroll (by
      have hi : i < xs.length := by omega
      simp only [laws_toIntS.l0]
      simp only [if_pos (show (i : Int) < xs.length by omega), if_pos (show (0 : Int) ≤ i by omega), if_pos (show (i : Int) < (ys ++ zs).length by simp; omega), wrap_succ hi (by unfold BIG; omega), rd_nat hi, Int.toNat_natCast]
      rw [fill_step ys zs _ hy.symm (by omega)]
      exact toIntS_l0 xs hn d (i + 1) _ _ (by omega) (by simp; omega) (by simp; omega) (by rw [List.take_succ_eq_append_getElem hi, ← e]))
theorem toIntS_f (l : List Int) (h : l.length ≤ 1048576) : Ev (fun k => laws_toIntS.f k l) l := by
  unfold laws_toIntS.f
  simp only [if_pos (show (0 : Int) ≤ l.length by omega), if_pos (show (l.length : Int).toNat ≤ 35184372088832 by omega)]
  rw [Int.toNat_natCast]
  exact toIntS_l0 l h l.length 0 [] _ (by omega) rfl (by simp) rfl

/-! #### EqInts -/
theorem eqIntS_l0 (xs : List Int) (hn : xs.length ≤ BIG) : ∀ (d i : Nat), i + d = xs.length → Ev (fun k => laws_eqIntS.l0 k xs xs i) true
  | 0, i, h => Ev.unroll (by
      simp only [laws_eqIntS.l0]
      simp only [if_neg (show ¬ (i : Int) < xs.length by omega)]
      exact Ev.now _)
  | d + 1, i, h => Ev.unroll (by
      have hi : i < xs.length := by omega
      simp only [laws_eqIntS.l0]
      simp only [if_pos (show (i : Int) < xs.length by omega), if_pos (show (0 : Int) ≤ i by omega), wrap_succ hi hn, if_true]
      exact eqIntS_l0 xs hn d (i + 1) (by omega))
theorem eqIntS_f (l : List Int) (h : l.length ≤ BIG) : Ev (fun k => laws_eqIntS.f k l l) true := by
  unfold laws_eqIntS.f
  simp only [if_true]
  exact eqIntS_l0 l h l.length 0 (by omega)

/-! #### FloorArg -/
theorem szFloor_f (w h : Int) (l : List Int) (b : Int) (hl : l.length ≤ 9223372036854775807) (h0 : 0 ≤ b) (h1 : b ≤ 1048576) : laws_szFloor.f w h l b = some (if (l.length : Int) ≤ b then b - (l.length : Int) else -1) := by
  unfold laws_szFloor.f
  rw [szIntS_f l b hl h0 h1, some_bind]
  split <;> split <;> first | rfl | omega
theorem toFloor_f (w h : Int) (l : List Int) (hl : l.length ≤ 1048576) : Ev (fun k => laws_toFloor.f k w h l) (w, h, l) := by
  unfold laws_toFloor.f
  exact Ev.bind (toIntS_f l hl) (Ev.now _)
theorem eqFloor_f (w h : Int) (l : List Int) (hl : l.length ≤ BIG) : Ev (fun k => laws_eqFloor.f k w h l w h l) true := by
  unfold laws_eqFloor.f
  simp only [if_true]
  exact Ev.bind (eqIntS_f l hl) (Ev.now _)

/-! #### Bfs -/
/-! Breadth first: from a cell outward. -/
def relax (v : Int) : List Int → List Int → List Int → List Int × List Int
  | out, todo, [] => (out, todo)
  | out, todo, c :: l => if rd out c < 0 then relax v (out.set c.toNat v) (todo ++ [c]) l else relax v out todo l
def negs (out : List Int) : Nat := out.countP (fun x => decide (x < 0))
theorem rd_set {xs : List Int} {c : Int} {v : Int} (h0 : 0 ≤ c) (h1 : c < (xs.length : Int)) {i : Int} (hi : 0 ≤ i) : rd (xs.set c.toNat v) i = if i = c then v else rd xs i := by
  unfold rd
  by_cases e : i = c
  · subst e
    rw [if_pos rfl, getD_at (by rw [List.length_set]; omega), List.getElem_set_self]
  · rw [if_neg e, List.getD_eq_getElem?_getD, List.getD_eq_getElem?_getD, List.getElem?_set_ne (by omega)]
theorem negs_set {xs : List Int} {c : Int} {v : Int} (h1 : c.toNat < xs.length) (hn : rd xs c < 0) (hv : 0 ≤ v) : negs (xs.set c.toNat v) + 1 = negs xs := by
  unfold negs
  rw [List.countP_set h1]
  have e : xs[c.toNat] < 0 := by unfold rd at hn; rwa [getD_at h1] at hn
  have hp : 0 < xs.countP (fun x => decide (x < 0)) := List.countP_pos_iff.2 ⟨xs[c.toNat], List.getElem_mem h1, by simpa using e⟩
  simp only [decide_eq_true_eq, if_pos e, if_neg (show ¬ v < 0 by omega)]
  omega
structure Relaxed (v : Int) (out todo0 l out' todo' : List Int) : Prop where
  len : out'.length = out.length
  val : ∀ c : Int, 0 ≤ c → rd out' c = if rd out c < 0 ∧ c ∈ l then v else rd out c
  todo : ∃ new, todo' = todo0 ++ new ∧ ∀ c, c ∈ new ↔ c ∈ l ∧ rd out c < 0
  size : negs out' + todo'.length = negs out + todo0.length
theorem relax_spec (v : Int) (hv : 0 ≤ v) : ∀ (l out todo : List Int), (∀ c ∈ l, 0 ≤ c ∧ c < (out.length : Int)) → Relaxed v out todo l (relax v out todo l).1 (relax v out todo l).2
  | [], out, todo, _ => ⟨rfl, fun c _ => by simp [relax], ⟨[], by simp [relax]⟩, rfl⟩
  | c :: l, out, todo, h => by
    have hc := h c (by simp)
    unfold relax
    by_cases h1 : rd out c < 0
    · rw [if_pos h1]
      have ih := relax_spec v hv l (out.set c.toNat v) (todo ++ [c]) (fun x hx => by rw [List.length_set]; exact h x (by simp [hx]))
      obtain ⟨new, e1, e2⟩ := ih.todo
      refine ⟨by rw [ih.len, List.length_set], fun x hx => ?_, ⟨c :: new, by rw [e1]; simp, fun x => ?_⟩, ?_⟩
      · rw [ih.val x hx, rd_set hc.1 hc.2 hx]
        by_cases e : x = c
        · subst e; simp [h1, show ¬ v < 0 by omega]
        · simp [e]
      · rw [List.mem_cons, e2]
        by_cases hx : x = c
        · subst hx; simp [h1]
        · by_cases hm : x ∈ l
          · have hx0 := h x (by simp [hm])
            rw [rd_set hc.1 hc.2 hx0.1, if_neg hx]; simp [hx, hm]
          · simp [hx, hm]
      · have h2 := ih.size
        have h3 := negs_set (xs := out) (c := c) (v := v) (by omega) h1 hv
        simp only [List.length_append, List.length_cons, List.length_nil] at h2
        omega
    · rw [if_neg h1]
      have ih := relax_spec v hv l out todo (fun x hx => h x (by simp [hx]))
      obtain ⟨new, e1, e2⟩ := ih.todo
      refine ⟨ih.len, fun x hx => ?_, ⟨new, e1, fun x => ?_⟩, ih.size⟩
      · rw [ih.val x hx]
        by_cases e : x = c
        · subst e; simp [h1]
        · simp [e]
      · rw [e2]
        by_cases hx : x = c
        · subst hx; simp [h1]
        · simp [hx]
def bfs (nb : Int → List Int) (go : Int → Bool) : Nat → List Int → List Int → List Int
  | 0, out, _ => out
  | _ + 1, out, [] => out
  | k + 1, out, n :: t => if go n = true then bfs nb go k (relax (rd out n + 1) out t (nb n)).1 (relax (rd out n + 1) out t (nb n)).2 else bfs nb go k out t
/-- What breadth first keeps: m is how far the head is. -/
structure BInv (nb : Int → List Int) (go : Int → Bool) (dst : Int) (n : Nat) (m : Int) (out todo : List Int) : Prop where
  len : out.length = n
  m0 : 0 ≤ m
  low : ∀ c : Int, 0 ≤ c → c < n → -1 ≤ rd out c
  zero : rd out dst = 0
  only : ∀ c : Int, 0 ≤ c → c < n → rd out c = 0 → c = dst
  mem : ∀ c ∈ todo, 0 ≤ c ∧ c < (n : Int) ∧ m ≤ rd out c
  srt : todo.Pairwise (fun a b => rd out a ≤ rd out b)
  top : ∀ c : Int, 0 ≤ c → c < n → rd out c ≤ m + 1
  done : ∀ c : Int, 0 ≤ c → c < n → 0 ≤ rd out c → c ∉ todo → rd out c ≤ m ∧ (go c = true → ∀ v ∈ nb c, 0 ≤ rd out v ∧ rd out v ≤ rd out c + 1)
  pred : ∀ v : Int, 0 ≤ v → v < n → 0 < rd out v → ∃ u : Int, 0 ≤ u ∧ u < n ∧ go u = true ∧ v ∈ nb u ∧ rd out u = rd out v - 1
/-- What breadth first tells. -/
structure Bfs (nb : Int → List Int) (go : Int → Bool) (dst : Int) (n : Nat) (out : List Int) : Prop where
  len : out.length = n
  low : ∀ c : Int, 0 ≤ c → c < n → -1 ≤ rd out c
  zero : rd out dst = 0
  only : ∀ c : Int, 0 ≤ c → c < n → rd out c = 0 → c = dst
  next : ∀ c : Int, 0 ≤ c → c < n → 0 ≤ rd out c → go c = true → ∀ v ∈ nb c, 0 ≤ rd out v ∧ rd out v ≤ rd out c + 1
  pred : ∀ v : Int, 0 ≤ v → v < n → 0 < rd out v → ∃ u : Int, 0 ≤ u ∧ u < n ∧ go u = true ∧ v ∈ nb u ∧ rd out u = rd out v - 1
theorem bfs_inv {nb : Int → List Int} {go : Int → Bool} {dst : Int} {n : Nat} (hnb : ∀ c : Int, 0 ≤ c → c < n → ∀ v ∈ nb c, 0 ≤ v ∧ v < (n : Int)) (ht : 0 ≤ dst ∧ dst < (n : Int)) :
    ∀ (k : Nat) (m : Int) (out todo : List Int), negs out + todo.length < k → BInv nb go dst n m out todo → Bfs nb go dst n (bfs nb go k out todo)
  | 0, _, _, _, h, _ => by omega
  | k + 1, m, out, [], _, i => ⟨i.len, i.low, i.zero, i.only, fun c h0 h1 h2 h3 => (i.done c h0 h1 h2 (by simp)).2 h3, i.pred⟩
  | k + 1, m, out, x :: t, h, i => by
    obtain ⟨x0, x1, xm⟩ := i.mem x (by simp)
    have hs := List.pairwise_cons.1 i.srt
    have mm : ∀ c : Int, 0 ≤ c → c < n → 0 ≤ rd out c → c ∉ x :: t → rd out c ≤ rd out x := fun c h0 h1 h2 h3 => by have := (i.done c h0 h1 h2 h3).1; omega
    have hm := i.m0
    unfold bfs
    by_cases hg : go x = true
    · rw [if_pos hg]
      have r := relax_spec (rd out x + 1) (by omega) (nb x) out t (fun c hc => by rw [i.len]; exact hnb x x0 x1 c hc)
      generalize (relax (rd out x + 1) out t (nb x)).1 = o' at r ⊢
      generalize (relax (rd out x + 1) out t (nb x)).2 = t' at r ⊢
      obtain ⟨new, e1, e2⟩ := r.todo
      have hv := r.val
      have hnew : ∀ c ∈ new, 0 ≤ c ∧ c < (n : Int) ∧ rd o' c = rd out x + 1 := fun c hc => by
        have h3 := (e2 c).1 hc
        have h4 := hnb x x0 x1 c h3.1
        exact ⟨h4.1, h4.2, by rw [hv c h4.1, if_pos ⟨h3.2, h3.1⟩]⟩
      have hkeep : ∀ c : Int, 0 ≤ c → 0 ≤ rd out c → rd o' c = rd out c := fun c h0 h1 => by rw [hv c h0, if_neg (by omega)]
      have hmt : ∀ c ∈ t, 0 ≤ c ∧ c < (n : Int) ∧ rd out x ≤ rd out c ∧ rd o' c = rd out c := fun c hc => by
        have h3 := i.mem c (by simp [hc])
        exact ⟨h3.1, h3.2.1, hs.1 c hc, hkeep c h3.1 (by omega)⟩
      have hx' := hkeep x x0 (by omega)
      refine bfs_inv hnb ht k (rd out x) o' t' ?_ ⟨by rw [r.len, i.len], by omega, ?_, ?_, ?_, ?_, ?_, ?_, ?_, ?_⟩
      · have := r.size
        simp only [List.length_cons] at h
        omega
      · intro c h0 h1
        have := i.low c h0 h1
        rw [hv c h0]; split <;> omega
      · rw [hkeep dst ht.1 (by rw [i.zero]; omega), i.zero]
      · intro c h0 h1 h2
        rw [hv c h0] at h2
        split at h2
        · omega
        · exact i.only c h0 h1 h2
      · intro c hc
        rw [e1, List.mem_append] at hc
        rcases hc with hc | hc
        · have h3 := hmt c hc; exact ⟨h3.1, h3.2.1, by omega⟩
        · have h3 := hnew c hc; exact ⟨h3.1, h3.2.1, by omega⟩
      · rw [e1, List.pairwise_append]
        refine ⟨?_, ?_, ?_⟩
        · refine List.Pairwise.imp_of_mem ?_ hs.2
          intro a b ha hb hab
          rw [(hmt a ha).2.2.2, (hmt b hb).2.2.2]; exact hab
        · refine List.Pairwise.imp_of_mem (R := fun _ _ => True) ?_ (List.pairwise_of_forall (fun _ _ => trivial))
          intro a b ha hb _
          rw [(hnew a ha).2.2, (hnew b hb).2.2]; omega
        · intro a ha b hb
          have h3 := hmt a ha
          have h4 := i.top a h3.1 h3.2.1
          rw [h3.2.2.2, (hnew b hb).2.2]; omega
      · intro c h0 h1
        rw [hv c h0]
        split
        · omega
        · have := i.top c h0 h1; omega
      · intro c h0 h1 h2 h3
        rw [e1, List.mem_append] at h3
        by_cases hcx : c = x
        · subst hcx
          rw [hx']
          refine ⟨by omega, fun _ v hvn => ?_⟩
          have hr := hnb c h0 h1 v hvn
          rw [hv v hr.1]
          have h5 := i.top v hr.1 hr.2
          split
          · omega
          · rename_i hneg
            have : ¬ rd out v < 0 := fun hh => hneg ⟨hh, hvn⟩
            omega
        · by_cases hneg : rd out c < 0
          · by_cases hcn : c ∈ nb x
            · exact absurd (Or.inr ((e2 c).2 ⟨hcn, hneg⟩)) h3
            · rw [hv c h0, if_neg (fun hh => hcn hh.2)] at h2; omega
          · have hct : c ∉ x :: t := by
              intro hh
              rcases List.mem_cons.1 hh with hh | hh
              · exact hcx hh
              · exact h3 (Or.inl hh)
            have hd := i.done c h0 h1 (by omega) hct
            rw [hkeep c h0 (by omega)]
            refine ⟨by omega, fun hgo v hvn => ?_⟩
            have h6 := hd.2 hgo v hvn
            have hr := hnb c h0 h1 v hvn
            rw [hkeep v hr.1 h6.1]; exact h6
      · intro v h0 h1 h2
        rw [hv v h0] at h2 ⊢
        split at h2
        · rename_i hh
          exact ⟨x, x0, x1, hg, hh.2, by rw [hx', if_pos hh]; omega⟩
        · rename_i hh
          obtain ⟨u, u0, u1, ug, uv, ud⟩ := i.pred v h0 h1 h2
          exact ⟨u, u0, u1, ug, uv, by rw [if_neg hh, hkeep u u0 (by omega)]; exact ud⟩
    · rw [if_neg hg]
      refine bfs_inv hnb ht k (rd out x) out t ?_ ⟨i.len, by omega, i.low, i.zero, i.only, ?_, hs.2, ?_, ?_, i.pred⟩
      · simp only [List.length_cons] at h; omega
      · intro c hc
        have h3 := i.mem c (by simp [hc]); exact ⟨h3.1, h3.2.1, hs.1 c hc⟩
      · intro c h0 h1
        have := i.top c h0 h1; omega
      · intro c h0 h1 h2 h3
        by_cases hcx : c = x
        · subst hcx
          exact ⟨by omega, fun hh => absurd hh hg⟩
        · have hd := i.done c h0 h1 h2 (by simp [hcx, h3])
          exact ⟨by omega, hd.2⟩
/-- From one cell alone. -/
def bfsFrom (nb : Int → List Int) (go : Int → Bool) (n : Nat) (dst : Int) : List Int := bfs nb go (n + 2) ((List.replicate n (-1 : Int)).set dst.toNat 0) [dst]
theorem rd_replicate {n : Nat} {v c : Int} (h0 : 0 ≤ c) (h1 : c < n) : rd (List.replicate n v) c = v := by
  unfold rd; rw [getD_at (by rw [List.length_replicate]; omega)]; simp
theorem negs_le (l : List Int) : negs l ≤ l.length := List.countP_le_length
theorem bfs_start {nb : Int → List Int} {go : Int → Bool} {dst : Int} {n : Nat} (ht : 0 ≤ dst ∧ dst < (n : Int)) : BInv nb go dst n 0 ((List.replicate n (-1 : Int)).set dst.toNat 0) [dst] := by
  have hv : ∀ c : Int, 0 ≤ c → c < n → rd ((List.replicate n (-1 : Int)).set dst.toNat 0) c = if c = dst then 0 else -1 := fun c h0 h1 => by
    rw [rd_set ht.1 (by rw [List.length_replicate]; exact ht.2) h0, rd_replicate h0 h1]
  refine ⟨by simp, by omega, ?_, ?_, ?_, ?_, by simp, ?_, ?_, ?_⟩
  · intro c h0 h1; rw [hv c h0 h1]; split <;> omega
  · rw [hv dst ht.1 ht.2, if_pos rfl]
  · intro c h0 h1 h2; rw [hv c h0 h1] at h2; split at h2; assumption; omega
  · intro c hc; obtain rfl := List.mem_singleton.1 hc; exact ⟨ht.1, ht.2, by rw [hv c ht.1 ht.2, if_pos rfl]; omega⟩
  · intro c h0 h1; rw [hv c h0 h1]; split <;> omega
  · intro c h0 h1 h2 h3; rw [hv c h0 h1, if_neg (by simpa using h3)] at h2; omega
  · intro c h0 h1 h2; rw [hv c h0 h1] at h2; split at h2 <;> omega
theorem bfs_from {nb : Int → List Int} {go : Int → Bool} {dst : Int} {n : Nat} (hnb : ∀ c : Int, 0 ≤ c → c < n → ∀ v ∈ nb c, 0 ≤ v ∧ v < (n : Int)) (ht : 0 ≤ dst ∧ dst < (n : Int)) : Bfs nb go dst n (bfsFrom nb go n dst) := by
  refine bfs_inv hnb ht (n + 2) 0 _ _ ?_ (bfs_start ht)
  have := negs_le ((List.replicate n (-1 : Int)).set dst.toNat 0)
  simp only [List.length_set, List.length_replicate] at this
  simp only [List.length_cons, List.length_nil]
  omega

/-! #### In -/
/-- Between two bounds. -/
def inB (a b c : Int) : Bool := decide (b ≤ a ∧ a ≤ c)
theorem inB_iff {a b c : Int} : inB a b c = true ↔ b ≤ a ∧ a ≤ c := by unfold inB; exact decide_eq_true_iff
theorem inB_no {a b c : Int} : inB a b c = false ↔ ¬ (b ≤ a ∧ a ≤ c) := by rw [← inB_iff]; simp
theorem impl_in_f (a b c : Int) : impl_in.f a b c = some (inB a b c) := by
  unfold impl_in.f inB
  by_cases h : b ≤ a <;> by_cases h2 : a ≤ c <;> simp [h, h2]
theorem spec_l1In_f (a b c : Int) : spec_l1In.f a b c = some (inB a b c) := by
  unfold spec_l1In.f inB
  by_cases h : b ≤ a <;> by_cases h2 : a ≤ c <;> simp [h, h2]

/-! #### FloorOk -/
def kindsOk (cs : List Int) (i : Nat) : Bool := allFrom cs.length i (fun j => inB (cs.getD j 0) 0 4)
def floorOk (w h : Int) (cs : List Int) : Bool := inB w 1 10 && inB h 1 10 && decide ((cs.length : Int) = w * h) && kindsOk cs 0
theorem spec_FloorOk_l0 (w h : Int) (cs : List Int) (hn : cs.length ≤ BIG) : ∀ (d i : Nat), i + d = cs.length → Ev (fun k => spec_FloorOk.l0 k i w h cs) (kindsOk cs i)
  | 0, i, e => Ev.unroll (by
      simp only [spec_FloorOk.l0]
      simp only [if_neg (show ¬ (i : Int) < cs.length by omega)]
      exact Ev.fin (allFrom_end (by omega)).symm)
  | d + 1, i, e => Ev.unroll (by
      have hi : i < cs.length := by omega
      simp only [spec_FloorOk.l0, spec_l1In_f, some_bind]
      simp only [if_pos (show (i : Int) < cs.length by omega), if_pos (show (0 : Int) ≤ i by omega), wrap_succ hi hn, rd, Int.toNat_natCast]
      by_cases h1 : inB (cs.getD i 0) 0 4 = true
      · simp only [if_pos h1]
        rw [show kindsOk cs i = kindsOk cs (i + 1) from allFrom_yes hi h1]
        exact spec_FloorOk_l0 w h cs hn d (i + 1) (by omega)
      · simp only [if_neg h1]
        exact Ev.fin (allFrom_no hi (by simpa using h1)).symm)
theorem impl_FloorOk_l0 (cs : List Int) (hn : cs.length ≤ BIG) : ∀ (d i : Nat), i + d = cs.length → Ev (fun k => impl_FloorOk.l0 k cs cs.length i) (kindsOk cs i)
  | 0, i, e => Ev.unroll (by
      simp only [impl_FloorOk.l0]
      simp only [if_neg (show ¬ (i : Int) < cs.length by omega)]
      exact Ev.fin (allFrom_end (by omega)).symm)
  | d + 1, i, e => Ev.unroll (by
      have hi : i < cs.length := by omega
      simp only [impl_FloorOk.l0, impl_in_f, some_bind]
      simp only [if_pos (show (i : Int) < cs.length by omega), if_pos (show (0 : Int) ≤ i by omega), wrap_succ hi hn, rd, Int.toNat_natCast]
      by_cases h1 : inB (cs.getD i 0) 0 4 = true
      · simp only [if_pos h1]
        rw [show kindsOk cs i = kindsOk cs (i + 1) from allFrom_yes hi h1]
        exact impl_FloorOk_l0 cs hn d (i + 1) (by omega)
      · simp only [if_neg h1]
        exact Ev.fin (allFrom_no hi (by simpa using h1)).symm)
theorem inB_mul {w h : Int} (h1 : inB w 1 10 = true) (h2 : inB h 1 10 = true) : wrap64 (w * h) = w * h ∧ 1 ≤ w * h ∧ w * h ≤ 100 := by
  obtain ⟨a, b⟩ := inB_iff.1 h1
  obtain ⟨c, d⟩ := inB_iff.1 h2
  have e1 : 1 * 1 ≤ w * h := Int.mul_le_mul a c (by omega) (by omega)
  have e2 : w * h ≤ 10 * 10 := Int.mul_le_mul b d (by omega) (by omega)
  exact ⟨wrap_id (by omega) (by omega), by omega, by omega⟩
theorem spec_FloorOk_f (w h : Int) (cs : List Int) (hn : cs.length ≤ BIG) : Ev (fun k => spec_FloorOk.f k w h cs) (floorOk w h cs) := by
  unfold spec_FloorOk.f floorOk
  simp only [spec_l1In_f, some_bind]
  by_cases h1 : inB w 1 10 = true
  · simp only [if_pos h1]
    by_cases h2 : inB h 1 10 = true
    · simp only [if_pos h2, (inB_mul h1 h2).1]
      refine Ev.unroll ?_
      simp only [spec_FloorOk.j0]
      by_cases h3 : (cs.length : Int) = w * h
      · simp only [h3, bne_self_eq_false, Bool.false_eq_true, if_false, h1, h2, Bool.true_and, decide_true]
        exact spec_FloorOk_l0 w h cs hn cs.length 0 (by omega)
      · simp only [if_pos (show ((cs.length : Int) != w * h) = true by simpa using h3)]
        exact Ev.fin (by simp [h3])
    · simp only [if_neg h2]
      refine Ev.unroll ?_
      simp only [spec_FloorOk.j0, if_true]
      exact Ev.fin (by rw [Bool.not_eq_true] at h2; rw [h2]; simp)
  · simp only [if_neg h1]
    refine Ev.unroll ?_
    simp only [spec_FloorOk.j0, if_true]
    exact Ev.fin (by rw [Bool.not_eq_true] at h1; rw [h1]; simp)
theorem impl_FloorOk_f (w h : Int) (cs : List Int) (hn : cs.length ≤ BIG) : Ev (fun k => impl_FloorOk.f k w h cs) (floorOk w h cs) := by
  unfold impl_FloorOk.f floorOk
  simp only [impl_in_f, some_bind]
  by_cases h1 : inB w 1 10 = true
  · simp only [if_pos h1]
    by_cases h2 : inB h 1 10 = true
    · simp only [if_pos h2, (inB_mul h1 h2).1]
      refine Ev.unroll ?_
      simp only [impl_FloorOk.j0]
      by_cases h3 : (cs.length : Int) = w * h
      · simp only [h3, bne_self_eq_false, Bool.false_eq_true, if_false, h1, h2, Bool.true_and, decide_true]
        rw [← h3]
        exact impl_FloorOk_l0 cs hn cs.length 0 (by omega)
      · simp only [if_pos (show ((cs.length : Int) != w * h) = true by simpa using h3)]
        exact Ev.fin (by simp [h3])
    · simp only [if_neg h2]
      refine Ev.unroll ?_
      simp only [impl_FloorOk.j0, if_true]
      exact Ev.fin (by rw [Bool.not_eq_true] at h2; rw [h2]; simp)
  · simp only [if_neg h1]
    refine Ev.unroll ?_
    simp only [impl_FloorOk.j0, if_true]
    exact Ev.fin (by rw [Bool.not_eq_true] at h1; rw [h1]; simp)

/-! #### Near -/
/-- The cells beside one: above, left, right, below. -/
def besideL (w h c : Int) : List Int :=
  (if c / w > 0 then [c - w] else []) ++ ((if c % w > 0 then [c - 1] else []) ++ ((if c % w < w - 1 then [c + 1] else []) ++ (if c / w < h - 1 then [c + w] else [])))
theorem besideL_le (w h c : Int) : (besideL w h c).length ≤ 4 := by
  unfold besideL
  split <;> split <;> split <;> split <;> simp
/-- A floor's bounds. -/
structure Fits (w h c : Int) : Prop where
  w1 : 1 ≤ w
  w2 : w ≤ 10
  h1 : 1 ≤ h
  h2 : h ≤ 10
  c1 : 0 ≤ c
  c2 : c < w * h
theorem Fits.area {w h c : Int} (f : Fits w h c) : w * h ≤ 100 := by
  have e2 : w * h ≤ 10 * 10 := Int.mul_le_mul f.w2 f.h2 (by have := f.h1; omega) (by omega)
  omega
theorem Fits.quot {w h c : Int} (f : Fits w h c) : 0 ≤ c / w ∧ c / w < h ∧ c = w * (c / w) + c % w ∧ 0 ≤ c % w ∧ c % w < w := by
  refine ⟨Int.ediv_nonneg f.c1 (by have := f.w1; omega), ?_, (Int.mul_ediv_add_emod c w).symm, Int.emod_nonneg _ (by have := f.w1; omega), Int.emod_lt_of_pos _ (by have := f.w1; omega)⟩
  apply Int.ediv_lt_of_lt_mul (by have := f.w1; omega)
  have := f.c2
  rw [Int.mul_comm]; exact this
theorem Fits.tdiv {w h c : Int} (f : Fits w h c) : wrap64 (Int.tdiv c w) = c / w := by
  have q := f.quot; have a := f.h2
  rw [Int.tdiv_eq_ediv_of_nonneg f.c1, wrap_id (by omega) (by omega)]
theorem Fits.tmod {w h c : Int} (f : Fits w h c) : Int.tmod c w = c % w := Int.tmod_eq_emod_of_nonneg f.c1
theorem mem_besideL {w h c x : Int} (f : Fits w h c) (hx : x ∈ besideL w h c) : 0 ≤ x ∧ x < w * h := by
  obtain ⟨q1, q2, q3, q4, q5⟩ := f.quot
  have hc := f.c2; have hw := f.w1
  unfold besideL at hx
  simp only [List.mem_append] at hx
  have up : c / w > 0 → w ≤ w * (c / w) := fun h => by have := Int.mul_le_mul_of_nonneg_left (show (1 : Int) ≤ c / w by omega) (show 0 ≤ w by omega); rw [Int.mul_one] at this; exact this
  have down : c / w < h - 1 → w * (c / w) + w * 2 ≤ w * h := fun hh => by
    have := Int.mul_le_mul_of_nonneg_left (show c / w + 2 ≤ h by omega) (show 0 ≤ w by omega)
    rw [Int.mul_add] at this; exact this
  have right : w * (c / w) + w ≤ w * h := by
    have := Int.mul_le_mul_of_nonneg_left (show c / w + 1 ≤ h by omega) (show 0 ≤ w by omega)
    rw [Int.mul_add, Int.mul_one] at this; exact this
  have hm0 : 0 ≤ w * (c / w) := Int.mul_nonneg (by omega) q1
  generalize w * (c / w) = m at *
  generalize w * h = n at *
  generalize c % w = r at *
  generalize c / w = q at *
  rcases hx with hx | hx | hx | hx <;> split at hx <;> simp only [List.mem_singleton, List.not_mem_nil] at hx
  · rename_i g; have := up g; omega
  · omega
  · omega
  · rename_i g; have := down g; omega
/-- The cells beside one where one may go. -/
def nearL (w h : Int) (cs : List Int) (c : Int) (loaded : Bool) : List Int := (besideL w h c).filter (fun x => !(rd cs x == 0) && !(loaded && rd cs x == 2))
theorem nearL_le (w h : Int) (cs : List Int) (c : Int) (loaded : Bool) : (nearL w h cs c loaded).length ≤ 4 := Nat.le_trans (List.length_filter_le _ _) (besideL_le w h c)
theorem mem_nearL {w h : Int} {cs : List Int} {c x : Int} {loaded : Bool} : x ∈ nearL w h cs c loaded ↔ x ∈ besideL w h c ∧ rd cs x ≠ 0 ∧ (loaded = true → rd cs x ≠ 2) := by
  unfold nearL
  rw [List.mem_filter]
  cases loaded <;> simp

/-! #### Copy -/
theorem spec_l1Copy_f (w h : Int) (cs : List Int) (hn : cs.length ≤ 1048576) : spec_l1Copy.f w h cs = some (w, h, cs) := by
  unfold spec_l1Copy.f
  simp (disch := omega) only [List.length_nil, List.nil_append, ↓if_pos, ↓if_neg, if_pos, if_neg, decide_eq_true_eq, ↓reduceIte, wrap_id, wrap_sc, some_bind, Int.toNat_natCast, rd_nat', getD_zero', Bool.not_true, Bool.not_false, Bool.false_eq_true, decide_true, decide_false]
theorem impl_copyInts_f (cs : List Int) (hn : cs.length ≤ 1048576) : impl_copyInts.f cs = some cs := by
  unfold impl_copyInts.f
  simp (disch := omega) only [List.length_nil, List.nil_append, ↓if_pos, ↓if_neg, if_pos, if_neg, decide_eq_true_eq, ↓reduceIte, wrap_id, wrap_sc, some_bind, Int.toNat_natCast, rd_nat', getD_zero', Bool.not_true, Bool.not_false, Bool.false_eq_true, decide_true, decide_false]
theorem impl_copyFloor_f (w h : Int) (cs : List Int) (hn : cs.length ≤ 1048576) : impl_copyFloor.f w h cs = some (w, h, cs) := by
  unfold impl_copyFloor.f
  simp (disch := omega) only [impl_copyInts_f cs hn, ↓if_pos, ↓if_neg, if_pos, if_neg, decide_eq_true_eq, ↓reduceIte, wrap_id, wrap_sc, some_bind, Int.toNat_natCast, rd_nat', getD_zero', Bool.not_true, Bool.not_false, Bool.false_eq_true, decide_true, decide_false]

/-! #### Turned -/
/-! A quarter to the right. -/
/-- Where a cell goes, and where the one at a cell comes from. -/
def turnTo (w h i : Int) : Int := i % w * h + (h - 1 - i / w)
def turnFrom (w h j : Int) : Int := (h - 1 - j % h) * w + j / h
theorem floorOk_size {w h : Int} {cs : List Int} (h1 : floorOk w h cs = true) : 1 ≤ w ∧ w ≤ 10 ∧ 1 ≤ h ∧ h ≤ 10 ∧ (cs.length : Int) = w * h := by
  unfold floorOk at h1
  simp only [Bool.and_eq_true, inB_iff, decide_eq_true_eq] at h1
  exact ⟨h1.1.1.1.1, h1.1.1.1.2, h1.1.1.2.1, h1.1.1.2.2, h1.1.2⟩
theorem turnTo_from {w h i : Int} (f : Fits w h i) : (0 ≤ turnTo w h i ∧ turnTo w h i < h * w) ∧ turnFrom w h (turnTo w h i) = i := by
  obtain ⟨q1, q2, q3, q4, q5⟩ := f.quot
  have hw := f.w1; have hh := f.h1
  have e : turnTo w h i / h = i % w ∧ turnTo w h i % h = h - 1 - i / w := (Int.ediv_emod_unique (by omega)).2 ⟨by unfold turnTo; rw [Int.mul_comm h]; omega, by omega, by omega⟩
  have b1 : 0 ≤ i % w * h := Int.mul_nonneg q4 (by omega)
  have b2 : i % w * h + h ≤ h * w := by
    have := Int.mul_le_mul_of_nonneg_left (show i % w + 1 ≤ w by omega) (show 0 ≤ h by omega)
    rw [Int.mul_add, Int.mul_one, Int.mul_comm h (i % w)] at this; exact this
  refine ⟨⟨by unfold turnTo; omega, by unfold turnTo; omega⟩, ?_⟩
  unfold turnFrom
  rw [e.1, e.2, show h - 1 - (h - 1 - i / w) = i / w by omega, Int.mul_comm]
  omega
theorem turnFrom_to {w h j : Int} (f : Fits h w j) : (0 ≤ turnFrom w h j ∧ turnFrom w h j < w * h) ∧ turnTo w h (turnFrom w h j) = j := by
  obtain ⟨q1, q2, q3, q4, q5⟩ := f.quot
  have hw := f.h1; have hh := f.w1
  have e : turnFrom w h j / w = h - 1 - j % h ∧ turnFrom w h j % w = j / h := (Int.ediv_emod_unique (by omega)).2 ⟨by unfold turnFrom; rw [Int.mul_comm w]; omega, by omega, by omega⟩
  have b1 : 0 ≤ (h - 1 - j % h) * w := Int.mul_nonneg (by omega) (by omega)
  have b2 : (h - 1 - j % h) * w + w ≤ w * h := by
    have := Int.mul_le_mul_of_nonneg_left (show h - 1 - j % h + 1 ≤ h by omega) (show 0 ≤ w by omega)
    rw [Int.mul_add, Int.mul_one, Int.mul_comm w (h - 1 - j % h)] at this; exact this
  refine ⟨⟨by unfold turnFrom; omega, by unfold turnFrom; omega⟩, ?_⟩
  unfold turnTo
  rw [e.1, e.2, show h - 1 - (h - 1 - j % h) = j % h by omega, Int.mul_comm]
  omega
def turned (w h : Int) (cs : List Int) : List Int := (List.range cs.length).map (fun j : Nat => rd cs (turnFrom w h (j : Int)))
/-- What stands so far: the first i cells are where they go. -/
def TurnSo (w h : Int) (cs : List Int) (i : Nat) (out : List Int) : Prop := out.length = cs.length ∧ ∀ j : Nat, j < i → rd out (turnTo w h j) = rd cs j
theorem turnSo_step {w h : Int} {cs out : List Int} {i : Nat} (hf : floorOk w h cs = true) (hi : i < cs.length) (t : TurnSo w h cs i out) : TurnSo w h cs (i + 1) (out.set (turnTo w h i).toNat (rd cs i)) := by
  obtain ⟨a1, a2, a3, a4, a5⟩ := floorOk_size hf
  have fit : ∀ j : Nat, j < cs.length → Fits w h j := fun j hj => ⟨a1, a2, a3, a4, by omega, by omega⟩
  have b := turnTo_from (fit i hi)
  refine ⟨by rw [List.length_set]; exact t.1, fun j hj => ?_⟩
  have bj := turnTo_from (fit j (by omega))
  rw [rd_set b.1.1 (by rw [t.1, a5, Int.mul_comm]; exact b.1.2) bj.1.1]
  by_cases e : j = i
  · subst e; rw [if_pos rfl]
  · rw [if_neg (fun h2 => e (by have h3 := bj.2; rw [h2, b.2] at h3; omega))]
    exact t.2 j (by omega)
theorem turnSo_end {w h : Int} {cs out : List Int} (hf : floorOk w h cs = true) (t : TurnSo w h cs cs.length out) : out = turned w h cs := by
  obtain ⟨a1, a2, a3, a4, a5⟩ := floorOk_size hf
  apply List.ext_getElem
  · unfold turned; rw [List.length_map, List.length_range]; exact t.1
  · intro j h1 h2
    have hj : j < cs.length := by rw [← t.1]; exact h1
    have b := turnFrom_to (w := w) (h := h) (j := j) ⟨a3, a4, a1, a2, by omega, by rw [Int.mul_comm]; omega⟩
    have h3 := t.2 (turnFrom w h j).toNat (by omega)
    rw [Int.toNat_of_nonneg b.1.1, b.2, rd_nat h1] at h3
    rw [h3]
    simp [turned]
theorem turn_words {w h : Int} {i : Nat} (f : Fits w h i) : wrap64 (wrap64 (wrap64 (wrap64 (Int.tmod i w * h) + h) - 1) - wrap64 (Int.tdiv i w)) = turnTo w h i := by
  obtain ⟨q1, q2, q3, q4, q5⟩ := f.quot
  have hw := f.w2; have hh := f.h2
  have b1 : 0 ≤ (i : Int) % w * h := Int.mul_nonneg q4 (by omega)
  have b2 : (i : Int) % w * h ≤ 10 * 10 := Int.mul_le_mul (by omega) (by omega) (by omega) (by omega)
  rw [f.tmod, f.tdiv, wrap_id (x := (i : Int) % w * h) (by omega) (by omega), wrap_id (x := (i : Int) % w * h + h) (by omega) (by omega), wrap_id (x := (i : Int) % w * h + h - 1) (by omega) (by omega), wrap_id (by omega) (by omega)]
  unfold turnTo; omega
theorem spec_Turned_l0 (w h : Int) (cs : List Int) (hf : floorOk w h cs = true) : ∀ (d i : Nat) (out : List Int), i + d = cs.length → TurnSo w h cs i out → Ev (fun k => spec_Turned.l0 k i w h cs h w out) (h, w, turned w h cs)
  | 0, i, out, e, t => Ev.unroll (by
      simp (disch := omega) only [spec_Turned.l0, ↓if_pos, ↓if_neg, if_pos, if_neg, decide_eq_true_eq, ↓reduceIte, wrap_id, wrap_sc, some_bind, Int.toNat_natCast, rd_nat', getD_zero', Bool.not_true, Bool.not_false, Bool.false_eq_true, decide_true, decide_false]
      obtain rfl : i = cs.length := by omega
      exact Ev.fin (by rw [turnSo_end hf t]))
  | d + 1, i, out, e, t => Ev.unroll (by
      have hi : i < cs.length := by omega
      obtain ⟨a1, a2, a3, a4, a5⟩ := floorOk_size hf
      have f : Fits w h i := ⟨a1, a2, a3, a4, by omega, by omega⟩
      have b := turnTo_from f
      have ht := t.1
      have b3 : turnTo w h i < out.length := by rw [ht, a5, Int.mul_comm]; exact b.1.2
      have e1 : (cs.length : Int) ≤ 100 := by rw [a5]; exact f.area
      simp only [spec_Turned.l0, turn_words f]
      simp (disch := omega) only [↓if_pos, ↓if_neg, if_pos, if_neg, decide_eq_true_eq, ↓reduceIte, wrap_id, wrap_sc, some_bind, Int.toNat_natCast, rd_nat', getD_zero', Bool.not_true, Bool.not_false, Bool.false_eq_true, decide_true, decide_false]
      have ih := spec_Turned_l0 w h cs hf d (i + 1) _ (by omega) (turnSo_step hf hi t)
      rw [rd_nat'] at ih
      exact ih)
theorem impl_Turned_l0 (w h : Int) (cs : List Int) (hf : floorOk w h cs = true) : ∀ (d i : Nat) (out : List Int), i + d = cs.length → TurnSo w h cs i out → Ev (fun k => impl_Turned.l0 k cs cs.length i w h cs h w out) (h, w, turned w h cs)
  | 0, i, out, e, t => Ev.unroll (by
      simp (disch := omega) only [impl_Turned.l0, ↓if_pos, ↓if_neg, if_pos, if_neg, decide_eq_true_eq, ↓reduceIte, wrap_id, wrap_sc, some_bind, Int.toNat_natCast, rd_nat', getD_zero', Bool.not_true, Bool.not_false, Bool.false_eq_true, decide_true, decide_false]
      obtain rfl : i = cs.length := by omega
      exact Ev.fin (by rw [turnSo_end hf t]))
  | d + 1, i, out, e, t => Ev.unroll (by
      have hi : i < cs.length := by omega
      obtain ⟨a1, a2, a3, a4, a5⟩ := floorOk_size hf
      have f : Fits w h i := ⟨a1, a2, a3, a4, by omega, by omega⟩
      have b := turnTo_from f
      have ht := t.1
      have b3 : turnTo w h i < out.length := by rw [ht, a5, Int.mul_comm]; exact b.1.2
      have e1 : (cs.length : Int) ≤ 100 := by rw [a5]; exact f.area
      simp only [impl_Turned.l0, turn_words f]
      simp (disch := omega) only [↓if_pos, ↓if_neg, if_pos, if_neg, decide_eq_true_eq, ↓reduceIte, wrap_id, wrap_sc, some_bind, Int.toNat_natCast, rd_nat', getD_zero', Bool.not_true, Bool.not_false, Bool.false_eq_true, decide_true, decide_false]
      have ih := impl_Turned_l0 w h cs hf d (i + 1) _ (by omega) (turnSo_step hf hi t)
      rw [rd_nat'] at ih
      exact ih)
/-- The floor turned: its width, its height, its cells. -/
def turnedF (w h : Int) (cs : List Int) : Int × Int × List Int := if floorOk w h cs = true then (h, w, turned w h cs) else (w, h, cs)
theorem turnedF_length (w h : Int) (cs : List Int) : (turnedF w h cs).2.2.length = cs.length := by
  unfold turnedF; split
  · unfold turned; simp
  · rfl
theorem spec_Turned_f (w h : Int) (cs : List Int) (hn : cs.length ≤ 1048576) : Ev (fun k => spec_Turned.f k w h cs) (turnedF w h cs) := by
  unfold spec_Turned.f turnedF
  simp (disch := omega) only [spec_l1Copy_f w h cs hn, ↓if_pos, ↓if_neg, if_pos, if_neg, decide_eq_true_eq, ↓reduceIte, wrap_id, wrap_sc, some_bind, Int.toNat_natCast, rd_nat', getD_zero', Bool.not_true, Bool.not_false, Bool.false_eq_true, decide_true, decide_false]
  refine Ev.bind (spec_FloorOk_f w h cs (by unfold BIG; omega)) ?_
  by_cases h1 : floorOk w h cs = true
  · simp (disch := omega) only [h1, ↓if_pos, ↓if_neg, if_pos, if_neg, decide_eq_true_eq, ↓reduceIte, wrap_id, wrap_sc, some_bind, Int.toNat_natCast, rd_nat', getD_zero', Bool.not_true, Bool.not_false, Bool.false_eq_true, decide_true, decide_false]
    exact spec_Turned_l0 w h cs h1 cs.length 0 cs (by omega) ⟨rfl, fun j hj => by omega⟩
  · simp (disch := omega) only [h1, ↓if_pos, ↓if_neg, if_pos, if_neg, decide_eq_true_eq, ↓reduceIte, wrap_id, wrap_sc, some_bind, Int.toNat_natCast, rd_nat', getD_zero', Bool.not_true, Bool.not_false, Bool.false_eq_true, decide_true, decide_false]
    exact Ev.now _
theorem impl_Turned_f (w h : Int) (cs : List Int) (hn : cs.length ≤ 1048576) : Ev (fun k => impl_Turned.f k w h cs) (turnedF w h cs) := by
  unfold impl_Turned.f turnedF
  refine Ev.bind (impl_FloorOk_f w h cs (by unfold BIG; omega)) ?_
  by_cases h1 : floorOk w h cs = true
  · simp (disch := omega) only [h1, ↓if_pos, ↓if_neg, if_pos, if_neg, decide_eq_true_eq, ↓reduceIte, wrap_id, wrap_sc, some_bind, Int.toNat_natCast, rd_nat', getD_zero', Bool.not_true, Bool.not_false, Bool.false_eq_true, decide_true, decide_false]
    exact impl_Turned_l0 w h cs h1 cs.length 0 _ (by omega) ⟨by simp, fun j hj => by omega⟩
  · simp (disch := omega) only [h1, impl_copyFloor_f w h cs hn, ↓if_pos, ↓if_neg, if_pos, if_neg, decide_eq_true_eq, ↓reduceIte, wrap_id, wrap_sc, some_bind, Int.toNat_natCast, rd_nat', getD_zero', Bool.not_true, Bool.not_false, Bool.false_eq_true, decide_true, decide_false]
    exact Ev.now _

/-! #### Marks -/
/-- a, a + 1, .. : n of them. -/
def marksFrom (a n : Nat) : List Int := (List.range' a n).map (fun j : Nat => (j : Int))
theorem marksFrom_length (a n : Nat) : (marksFrom a n).length = n := by unfold marksFrom; simp
theorem marksFrom_succ (a n : Nat) : marksFrom a (n + 1) = marksFrom a n ++ [((a + n : Nat) : Int)] := by
  unfold marksFrom
  rw [List.range'_1_concat, List.map_append]; rfl
theorem marksFrom_getD (a n i : Nat) (h : i < n) : (marksFrom a n).getD i 0 = ((a + i : Nat) : Int) := by
  rw [getD_at (by rw [marksFrom_length]; exact h)]
  unfold marksFrom
  simp
theorem markIntS_l0 (a n : Nat) (hn : a + n ≤ BIG) : ∀ (d i : Nat) (zs : List Int), i + d = n → zs.length = d → Ev (fun k => laws_markIntS.l0 k (marksFrom a i ++ zs) ((a + i : Nat) : Int) i) (((a + n : Nat) : Int), marksFrom a n)
  | 0, i, zs, h, hz => Ev.unroll (by
      obtain rfl := List.length_eq_zero_iff.1 hz
      obtain rfl : i = n := by omega
      simp only [laws_markIntS.l0, List.append_nil, marksFrom_length, Int.lt_irrefl, if_false]
      exact Ev.now _)
  | d + 1, i, zs, h, hz => Ev.unroll (by
      have hl : (marksFrom a i ++ zs).length = n := by rw [List.length_append, marksFrom_length]; omega
      simp only [laws_markIntS.l0, hl]
      simp only [if_pos (show (i : Int) < (n : Int) by omega), if_pos (show (0 : Int) ≤ i by omega), wrap_succ (show i < n by omega) (by omega), wrap_succ (show a + i < a + n by omega) hn, Int.toNat_natCast]
      rw [fill_step (marksFrom a i) zs _ (marksFrom_length a i).symm (by omega), ← marksFrom_succ, Nat.add_assoc]
      exact markIntS_l0 a n hn d (i + 1) _ (by omega) (by simp; omega))
theorem markIntS_f (l : List Int) (a : Nat) (hn : a + l.length ≤ BIG) : Ev (fun k => laws_markIntS.f k l (a : Int)) (((a + l.length : Nat) : Int), marksFrom a l.length) :=
  markIntS_l0 a l.length hn l.length 0 l (by omega) rfl
theorem heldIntS_l0 (a n : Nat) (hn : a + n ≤ BIG) : ∀ (d i : Nat), i + d = n → Ev (fun k => laws_heldIntS.l0 k (marksFrom a n) ((a + i : Nat) : Int) i) ((a + n : Nat) : Int)
  | 0, i, h => Ev.unroll (by
      obtain rfl : i = n := by omega
      simp only [laws_heldIntS.l0, marksFrom_length, Int.lt_irrefl, if_false]
      exact Ev.now _)
  | d + 1, i, h => Ev.unroll (by
      simp only [laws_heldIntS.l0, marksFrom_length]
      simp only [if_pos (show (i : Int) < (n : Int) by omega), if_pos (show (0 : Int) ≤ i by omega), wrap_succ (show i < n by omega) (by omega), wrap_succ (show a + i < a + n by omega) hn, rd, Int.toNat_natCast, marksFrom_getD a n i (by omega), if_true]
      exact heldIntS_l0 a n hn d (i + 1) (by omega))
theorem heldIntS_f (a n : Nat) (hn : a + n ≤ BIG) : Ev (fun k => laws_heldIntS.f k (marksFrom a n) (a : Int)) ((a + n : Nat) : Int) :=
  heldIntS_l0 a n hn n 0 (by omega)

/-! #### MarkFloor -/
theorem markFloor_f (w h : Int) (l : List Int) (a : Nat) (hn : a + l.length ≤ BIG) : Ev (fun k => laws_markFloor.f k w h l (a : Int)) (((a + l.length : Nat) : Int), marksFrom a l.length) := by
  unfold laws_markFloor.f
  exact Ev.bind (markIntS_f l a hn) (Ev.now _)

/-! #### HeldFloor -/
theorem heldFloor_f (w h : Int) (a n : Nat) (hn : a + n ≤ BIG) : Ev (fun k => laws_heldFloor.f k w h (marksFrom a n) (a : Int)) ((a + n : Nat) : Int) := by
  unfold laws_heldFloor.f
  exact Ev.bind (heldIntS_f a n hn) (Ev.now _)

/-! #### FnExactTurned -/
theorem FnExactTurned : ∀ (a0_0 : Int) (a0_1 : Int) (l0_2 : List (Int)), (-9223372036854775808 ≤ a0_0 ∧ a0_0 ≤ 9223372036854775807) → (-9223372036854775808 ≤ a0_1 ∧ a0_1 ≤ 9223372036854775807) → (l0_2.length ≤ 9223372036854775807 ∧ ∀ y0 ∈ l0_2, (-9223372036854775808 ≤ y0 ∧ y0 ≤ 9223372036854775807)) → ∃ k, laws_FnExactTurned.f k a0_0 a0_1 l0_2 = some true := by
  intro w h l _ _ ⟨hl, _⟩
  refine Ev.rounds ?_
  unfold laws_FnExactTurned.f
  by_cases hb : (l.length : Int) ≤ 1048576
  · have hl2 : l.length ≤ 1048576 := by omega
    have hB : l.length ≤ BIG := by unfold BIG; omega
    have hB1 : 1 + l.length ≤ BIG := by unfold BIG; omega
    have s1 := spec_Turned_f w h l hl2
    have s2 := impl_Turned_f w h l hl2
    have hp := turnedF_length w h l
    generalize turnedF w h l = x at s1 s2 hp
    obtain ⟨w', h', l'⟩ := x
    simp only at hp
    have e1 := eqFloor_f w' h' l' (by omega)
    have e2 := markFloor_f w' h' l' 1 (by omega)
    have e3 := heldFloor_f w' h' 1 l'.length (by omega)
    have e4 := markFloor_f w h l 1 (by omega)
    have e5 := eqFloor_f w h _ hB
    simp (disch := omega) only [szFloor_f w h l _ hl (show (0 : Int) ≤ 1048576 by omega) (by omega), ↓if_pos, ↓if_neg, if_pos, if_neg, decide_eq_true_eq, ↓reduceIte, wrap_id, wrap_sc, some_bind, Int.toNat_natCast, rd_nat', getD_zero', Bool.not_true, Bool.not_false, Bool.false_eq_true, decide_true, decide_false]
    repeat (first | exact Ev.now _ | (with_reducible refine Ev.bind (toFloor_f w h l hl2) ?_; try dsimp only) | (with_reducible refine Ev.bind (s1) ?_; try dsimp only) | (with_reducible refine Ev.bind (s2) ?_; try dsimp only) | (with_reducible refine Ev.bind (e1) ?_; try dsimp only) | (with_reducible refine Ev.bind (e2) ?_; try dsimp only) | (with_reducible refine Ev.bind (e3) ?_; try dsimp only) | (with_reducible refine Ev.bind (e4) ?_; try dsimp only) | (with_reducible refine Ev.bind (e5) ?_; try dsimp only) | (with_reducible refine Ev.ifp ?cc ?_; (case cc => first | rfl | decide | assumption | omega)) | (with_reducible refine Ev.ifn ?cc ?_; (case cc => first | decide | assumption | omega)) | simp only [Bool.not_true, some_bind] | (refine Ev.unroll ?_; simp only [laws_FnExactTurned.j0]))
  · simp (disch := omega) only [szFloor_f w h l _ hl (show (0 : Int) ≤ 1048576 by omega) (by omega), ↓if_pos, ↓if_neg, if_pos, if_neg, decide_eq_true_eq, ↓reduceIte, wrap_id, wrap_sc, some_bind, Int.toNat_natCast, rd_nat', getD_zero', Bool.not_true, Bool.not_false, Bool.false_eq_true, decide_true, decide_false]
    exact Ev.now _

end Go.Proofs.Ytjeonneegmhcdaa.Pure
