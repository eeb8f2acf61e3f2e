/- Proved here: the law FnExactTakeAll, over numbers and lists: for all arguments it returns true; no condition. -/
import Derived.Test.YteajnkondkfmgaaPFnExactTakeAllx15
namespace Go.Proofs.Yteajnkondkfmgaa.Pure
open Go.RowKit Go.Proofs.Yteajnkondkfmgaa.PFnExactTakeAll Go.Proofs.YteajnkondkfmgaaW.PrintWords Go.Proofs.YteajnkondkfmgaaW.PrintLast
set_option linter.unusedVariables false
set_option linter.unusedSimpArgs false

/-! #### base -/
/-! Words of this session: rounds, whole numbers in their bounds, reading by index. -/
theorem Ev.unroll {α : Type} {g : Nat → Option α} {r : α} (h : Ev (fun k => g (k + 1)) r) : Ev g r := Ev.step (fun _ => rfl) h
theorem Ev.const {α : Type} {x : Option α} {r : α} (h : x = some r) : Ev (fun _ => x) r := ⟨0, fun _ _ => h⟩
theorem Ev.fin {α : Type} {r s : α} (h : r = s) : Ev (fun _ => some r) s := by rw [h]; exact Ev.now _
theorem wrap_id {x : Int} (h0 : -9223372036854775808 ≤ x) (h1 : x ≤ 9223372036854775807) : wrap64 x = x := by unfold wrap64; omega
/-- The bound of all lengths here. -/
abbrev BIG : Nat := 4611686018427387904
theorem wrap_succ {i n : Nat} (h : i < n) (hn : n ≤ BIG) : wrap64 ((i : Int) + 1) = ((i + 1 : Nat) : Int) := by unfold wrap64; unfold BIG at hn; omega
theorem wrap_pred {i n : Nat} (h : i < n) (h0 : 0 < i) (hn : n ≤ BIG) : wrap64 ((i : Int) - 1) = ((i - 1 : Nat) : Int) := by unfold wrap64; unfold BIG at hn; omega
theorem rd_nat {xs : List Int} {i : Nat} (h : i < xs.length) : rd xs (i : Int) = xs[i] := by unfold rd; simp [List.getD, h]
theorem getD_nat {α : Type} {xs : List α} {d : α} {i : Nat} (h : i < xs.length) : xs.getD (i : Int).toNat d = xs[i] := by simp [List.getD, h]
theorem getD_zero {α : Type} {xs : List α} {d : α} (h : 0 < xs.length) : xs.getD (0 : Int).toNat d = xs[0] := by simp [List.getD, h]
theorem drop_cons {α : Type} {xs : List α} {i : Nat} (h : i < xs.length) : xs.drop i = xs[i] :: xs.drop (i + 1) := List.drop_eq_getElem_cons h
theorem drop_end {α : Type} {xs : List α} {i : Nat} (h : xs.length ≤ i) : xs.drop i = [] := List.drop_of_length_le h
/-- A list filled from the front, by index. -/
theorem fill_step {α : Type} (ys zs : List α) (x : α) {i : Nat} (hi : i = ys.length) (hz : 0 < zs.length) : (ys ++ zs).set i x = (ys ++ [x]) ++ zs.drop 1 := by
  subst hi
  match zs, hz with
  | z :: zs, _ => simp
theorem set_id {α : Type} (xs : List α) (i : Nat) (h : i < xs.length) : xs.set i xs[i] = xs := by
  apply List.ext_getElem
  · simp
  · intro j h1 h2
    rw [List.getElem_set]
    split
    · rename_i e; subst e; rfl
    · rfl
theorem some_bind {α β : Type} (a : α) (f : α → Option β) : (some a).bind f = f a := rfl
theorem getD_at {α : Type} {xs : List α} {d : α} {i : Nat} (h : i < xs.length) : xs.getD i d = xs[i] := by simp [List.getD, h]
/-- All places from i on, below n. -/
def allFrom (n i : Nat) (p : Nat → Bool) : Bool := (List.range' i (n - i)).all p
theorem allFrom_end {n i : Nat} {p : Nat → Bool} (h : n ≤ i) : allFrom n i p = true := by
  unfold allFrom
  rw [show n - i = 0 by omega]; rfl
theorem allFrom_step {n i : Nat} {p : Nat → Bool} (h : i < n) : allFrom n i p = (p i && allFrom n (i + 1) p) := by
  unfold allFrom
  rw [show n - i = (n - (i + 1)) + 1 by omega, List.range'_succ, List.all_cons]
theorem allFrom_no {n i : Nat} {p : Nat → Bool} (h : i < n) (hp : p i = false) : allFrom n i p = false := by rw [allFrom_step h, hp, Bool.false_and]
theorem allFrom_yes {n i : Nat} {p : Nat → Bool} (h : i < n) (hp : p i = true) : allFrom n i p = allFrom n (i + 1) p := by rw [allFrom_step h, hp, Bool.true_and]
theorem allFrom_iff {n i : Nat} {p : Nat → Bool} : allFrom n i p = true ↔ ∀ j, i ≤ j → j < n → p j = true := by
  unfold allFrom
  rw [List.all_eq_true]
  constructor
  · intro h j h1 h2
    exact h j (by rw [List.mem_range'_1]; omega)
  · intro h j hj
    rw [List.mem_range'_1] at hj
    exact h j hj.1 (by omega)
theorem itd_pos {α : Type} {p : Prop} [Decidable p] (h : p) {a b : α} : (if decide p = true then a else b) = a := if_pos (decide_eq_true h)
theorem itd_neg {α : Type} {p : Prop} [Decidable p] (h : ¬ p) {a b : α} : (if decide p = true then a else b) = b := if_neg (by rw [decide_eq_false h]; decide)
/-- The places from i on, below n, that p holds of. -/
def filtFrom (n i : Nat) (p : Nat → Bool) : List Int := ((List.range' i (n - i)).filter p).map (fun j : Nat => (j : Int))
theorem filtFrom_end {n i : Nat} {p : Nat → Bool} (h : n ≤ i) : filtFrom n i p = [] := by
  unfold filtFrom
  rw [show n - i = 0 by omega]; rfl
theorem filtFrom_yes {n i : Nat} {p : Nat → Bool} (h : i < n) (hp : p i = true) : filtFrom n i p = (i : Int) :: filtFrom n (i + 1) p := by
  unfold filtFrom
  rw [show n - i = (n - (i + 1)) + 1 by omega, List.range'_succ, List.filter_cons, if_pos hp, List.map_cons]
theorem filtFrom_no {n i : Nat} {p : Nat → Bool} (h : i < n) (hp : p i = false) : filtFrom n i p = filtFrom n (i + 1) p := by
  unfold filtFrom
  rw [show n - i = (n - (i + 1)) + 1 by omega, List.range'_succ, List.filter_cons, if_neg (by rw [hp]; decide)]
theorem filtFrom_le {n i : Nat} {p : Nat → Bool} : (filtFrom n i p).length ≤ n - i := by
  unfold filtFrom
  rw [List.length_map]
  exact Nat.le_trans (List.length_filter_le _ _) (by simp)
theorem mem_filtFrom {n i : Nat} {p : Nat → Bool} {x : Int} : x ∈ filtFrom n i p ↔ ∃ j : Nat, i ≤ j ∧ j < n ∧ p j = true ∧ x = (j : Int) := by
  unfold filtFrom
  simp only [List.mem_map, List.mem_filter, List.mem_range'_1]
  constructor
  · rintro ⟨j, ⟨⟨h1, h2⟩, h3⟩, rfl⟩; exact ⟨j, h1, by omega, h3, rfl⟩
  · rintro ⟨j, h1, h2, h3, rfl⟩; exact ⟨j, ⟨⟨h1, by omega⟩, h3⟩, rfl⟩
theorem wrap_sc {i : Nat} (h : i < 9223372036854775807) : wrap64 ((i : Int) + 1) = ((i + 1 : Nat) : Int) := by unfold wrap64; omega
theorem rd_nat' {xs : List Int} {i : Nat} : rd xs (i : Int) = xs.getD i 0 := by unfold rd; rw [Int.toNat_natCast]
theorem getD_zero' {α : Type} {xs : List α} {d : α} : xs.getD (0 : Int).toNat d = xs.getD 0 d := rfl
theorem Bool.ite_tf (b : Bool) : (if b = true then true else false) = b := by cases b <;> rfl
theorem ev_ite {α : Type} {c : Prop} [Decidable c] {g h : Nat → Option α} {r s : α} (h1 : c → Ev g r) (h2 : ¬ c → Ev h s) : Ev (fun k => if c then g k else h k) (if c then r else s) := by
  by_cases hc : c
  · simp only [if_pos hc]; exact h1 hc
  · simp only [if_neg hc]; exact h2 hc
theorem Ev.ifp {α : Type} {c : Prop} [Decidable c] {g h : Nat → Option α} {r : α} (hc : c) (e : Ev g r) : Ev (fun k => if c then g k else h k) r := by simp only [if_pos hc]; exact e
theorem Ev.ifn {α : Type} {c : Prop} [Decidable c] {g h : Nat → Option α} {r : α} (hc : ¬ c) (e : Ev h r) : Ev (fun k => if c then g k else h k) r := by simp only [if_neg hc]; exact e
theorem ev_ite' {α : Type} {c : Prop} [Decidable c] {g h : Nat → Option α} {r : α} (h1 : c → Ev g r) (h2 : ¬ c → Ev h r) : Ev (fun k => if c then g k else h k) r := by
  by_cases hc : c
  · simp only [if_pos hc]; exact h1 hc
  · simp only [if_neg hc]; exact h2 hc

/-! #### StockArg -/
/-! Stocks as arguments: their size, their copies, whether they are alike. -/
theorem rd_struct_at {α : Type} {xs : List α} {d : α} {i : Nat} (h : i < xs.length) : xs.getD (i : Int).toNat d = xs[i] := by rw [Int.toNat_natCast]; exact getD_at h
def mkStack (a : S131) : S72 := ⟨a.f0, a.f1, a.f2⟩
def mkPod (a : S117) : S79 := ⟨a.f0, a.f1, a.f2.map mkStack⟩
theorem szStackS_f (l : List S131) (b : Int) (h : l.length ≤ 9223372036854775807) (h0 : 0 ≤ b) (h1 : b ≤ 1048576) : laws_szStackS.f l b = some (if (l.length : Int) ≤ b then b - (l.length : Int) else -1) := by
  unfold laws_szStackS.f
  rw [wrap_id (by omega) (by omega)]
  split <;> split <;> first | rfl | omega
theorem szPod_f (x y : Int) (l : List S131) (b : Int) (h : l.length ≤ 9223372036854775807) (h0 : 0 ≤ b) (h1 : b ≤ 1048576) : laws_szPod.f x y l b = some (if (l.length : Int) ≤ b then b - (l.length : Int) else -1) := by
  unfold laws_szPod.f
  rw [szStackS_f l b h h0 h1, some_bind]
  split <;> split <;> first | rfl | omega
theorem szPodS_l0 (xs : List S117) (hn : xs.length ≤ 1048576) (hx : ∀ x ∈ xs, x.f2.length ≤ 9223372036854775807) : ∀ (d i : Nat) (b : Int), i + d = xs.length → 0 ≤ b → b ≤ 1048576 →
    ∃ r : Int, Ev (fun k => laws_szPodS.l0 k xs b i) r ∧ (0 ≤ r → ∀ x ∈ xs.drop i, x.f2.length ≤ 1048576)
  | 0, i, b, h, h0, h1 => ⟨b, Ev.unroll (by
      simp only [laws_szPodS.l0]
      exact Ev.ifn (by omega) (Ev.now _)), fun _ x hx => by rw [drop_end (by omega)] at hx; cases hx⟩
  | d + 1, i, b, h, h0, h1 => by
      have hi : i < xs.length := by omega
      have er : rd_T117 xs i = xs[i] := rd_struct_at hi
      have hl := hx xs[i] (List.getElem_mem hi)
      have e := szPod_f xs[i].f0 xs[i].f1 xs[i].f2 b hl h0 h1
      by_cases hb : (xs[i].f2.length : Int) ≤ b
      · obtain ⟨r, hr, hr2⟩ := szPodS_l0 xs hn hx d (i + 1) (b - xs[i].f2.length) (by omega) (by omega) (by omega)
        refine ⟨r, Ev.unroll ?_, fun h4 x hx => ?_⟩
        · rw [if_pos hb] at e
          simp only [laws_szPodS.l0, er, e, some_bind]
          refine Ev.ifp (by omega) (Ev.ifp (by omega) (Ev.ifn (by omega) ?_))
          rw [wrap_sc (i := i) (by omega)]
          exact hr
        · rw [drop_cons hi] at hx
          rcases List.mem_cons.1 hx with rfl | hx
          · omega
          · exact hr2 h4 x hx
      · refine ⟨-1, Ev.unroll ?_, fun h4 => by omega⟩
        rw [if_neg hb] at e
        simp only [laws_szPodS.l0, er, e, some_bind]
        exact Ev.ifp (by omega) (Ev.ifp (by omega) (Ev.ifp (by omega) (Ev.now _)))
theorem szStock_f (xs : List S117) (hn : xs.length ≤ 9223372036854775807) (hx : ∀ x ∈ xs, x.f2.length ≤ 9223372036854775807) :
    ∃ r : Int, Ev (fun k => laws_szStock.f k xs 1048576) r ∧ (0 ≤ r → xs.length ≤ 1048576 ∧ ∀ x ∈ xs, x.f2.length ≤ 1048576) := by
  unfold laws_szStock.f
  have key : ∃ r : Int, Ev (fun k => laws_szPodS.f k xs 1048576) r ∧ (0 ≤ r → xs.length ≤ 1048576 ∧ ∀ x ∈ xs, x.f2.length ≤ 1048576) := by
    unfold laws_szPodS.f
    by_cases hb : xs.length ≤ 1048576
    · obtain ⟨r, hr, hr2⟩ := szPodS_l0 xs hb hx xs.length 0 (1048576 - xs.length) (by omega) (by omega) (by omega)
      refine ⟨r, ?_, fun h4 => ⟨hb, fun x hx' => hr2 h4 x hx'⟩⟩
      rw [wrap_id (by omega) (by omega)]
      exact Ev.ifn (by omega) hr
    · refine ⟨-1, ?_, fun h4 => by omega⟩
      rw [wrap_id (by omega) (by omega)]
      exact Ev.ifp (by omega) (Ev.now _)
  obtain ⟨r, hr, hr2⟩ := key
  by_cases h0 : r < 0
  · exact ⟨-1, Ev.bind hr (Ev.ifp h0 (Ev.now _)), fun h => by omega⟩
  · exact ⟨r, Ev.bind hr (Ev.ifn h0 (Ev.now _)), hr2⟩
theorem toStackS_l0 (xs : List S131) (hn : xs.length ≤ 1048576) : ∀ (d i : Nat) (ys zs : List S72), i + d = xs.length → ys.length = i → zs.length = d → ys = (xs.take i).map mkStack → Ev (fun k => laws_toStackS.l0 k xs (ys ++ zs) i) (xs.map mkStack)
  | 0, i, ys, zs, h, hy, hz, e => Ev.unroll (by
      obtain rfl := List.length_eq_zero_iff.1 hz
      simp only [laws_toStackS.l0]
      exact Ev.ifn (by omega) (Ev.fin (by rw [e, List.take_of_length_le (by omega), List.append_nil])))
  | d + 1, i, ys, zs, h, hy, hz, e => Ev.unroll (by
      have hi : i < xs.length := by omega
      have hl : (ys ++ zs).length = xs.length := by simp; omega
      have er : rd_T131 xs i = xs[i] := rd_struct_at hi
      simp only [laws_toStackS.l0, laws_toStack.f, some_bind, er, hl]
      refine Ev.ifp (by omega) (Ev.ifp (by omega) (Ev.ifp (by omega) ?_))
      rw [wrap_sc (i := i) (by omega), Int.toNat_natCast, fill_step ys zs _ hy.symm (by omega)]
      exact toStackS_l0 xs hn d (i + 1) _ _ (by omega) (by simp; omega) (by simp; omega) (by rw [List.take_succ_eq_append_getElem hi, List.map_append, ← e]; rfl))
theorem toStackS_f (l : List S131) (h : l.length ≤ 1048576) : Ev (fun k => laws_toStackS.f k l) (l.map mkStack) := by
  unfold laws_toStackS.f
  rw [Int.toNat_natCast]
  exact Ev.ifp (by omega) (Ev.ifp (by omega) (toStackS_l0 l h l.length 0 [] _ (by omega) rfl (by simp) rfl))
theorem toPodS_l0 (xs : List S117) (hn : xs.length ≤ 1048576) (hx : ∀ x ∈ xs, x.f2.length ≤ 1048576) : ∀ (d i : Nat) (ys zs : List S79), i + d = xs.length → ys.length = i → zs.length = d → ys = (xs.take i).map mkPod → Ev (fun k => laws_toPodS.l0 k xs (ys ++ zs) i) (xs.map mkPod)
  | 0, i, ys, zs, h, hy, hz, e => Ev.unroll (by
      obtain rfl := List.length_eq_zero_iff.1 hz
      simp only [laws_toPodS.l0]
      exact Ev.ifn (by omega) (Ev.fin (by rw [e, List.take_of_length_le (by omega), List.append_nil])))
  | d + 1, i, ys, zs, h, hy, hz, e => Ev.unroll (by
      have hi : i < xs.length := by omega
      have hl : (ys ++ zs).length = xs.length := by simp; omega
      have er : rd_T117 xs i = xs[i] := rd_struct_at hi
      have ep : Ev (fun k => laws_toPod.f k xs[i].f0 xs[i].f1 xs[i].f2) (xs[i].f0, xs[i].f1, xs[i].f2.map mkStack) := by
        unfold laws_toPod.f
        exact Ev.bind (toStackS_f _ (hx _ (List.getElem_mem hi))) (Ev.now _)
      simp only [laws_toPodS.l0, er, hl]
      refine Ev.ifp (by omega) (Ev.ifp (by omega) (Ev.bind ep (Ev.ifp (by omega) ?_)))
      rw [wrap_sc (i := i) (by omega), Int.toNat_natCast, fill_step ys zs _ hy.symm (by omega)]
      exact toPodS_l0 xs hn hx d (i + 1) _ _ (by omega) (by simp; omega) (by simp; omega) (by rw [List.take_succ_eq_append_getElem hi, List.map_append, ← e]; rfl))
theorem toStock_f (l : List S117) (h : l.length ≤ 1048576) (hx : ∀ x ∈ l, x.f2.length ≤ 1048576) : Ev (fun k => laws_toStock.f k l) (l.map mkPod) := by
  unfold laws_toStock.f laws_toPodS.f
  rw [Int.toNat_natCast]
  refine Ev.bind (g := fun k => if 0 ≤ (l.length : Int) then (if l.length ≤ 7036874417766 then (laws_toPodS.l0 k l (List.replicate l.length z79) 0) else (none)) else (none)) (a := l.map mkPod) ?_ (Ev.now _)
  exact Ev.ifp (by omega) (Ev.ifp (by omega) (toPodS_l0 l h hx l.length 0 [] _ (by omega) rfl (by simp) rfl))
theorem eqStack_f (r : S72) : laws_eqStack.f r.f0 r.f1 r.f2 r.f0 r.f1 r.f2 = some true := by
  unfold laws_eqStack.f; simp
theorem eqStackS_l0 (xs : List S72) (hn : xs.length ≤ 4194304) : ∀ (d i : Nat), i + d = xs.length → Ev (fun k => laws_eqStackS.l0 k xs xs i) true
  | 0, i, h => Ev.unroll (by
      simp only [laws_eqStackS.l0]
      exact Ev.ifn (by omega) (Ev.now _))
  | d + 1, i, h => Ev.unroll (by
      simp only [laws_eqStackS.l0, eqStack_f, some_bind, wrap_sc (show i < 9223372036854775807 by omega)]
      exact Ev.ifp (by omega) (Ev.ifp (by omega) (Ev.ifp (by omega) (Ev.ifp trivial (eqStackS_l0 xs hn d (i + 1) (by omega))))))
theorem eqPod_f (x y : Int) (l : List S72) (h : l.length ≤ 4194304) : Ev (fun k => laws_eqPod.f k x y l x y l) true := by
  have : Ev (fun k => laws_eqStackS.f k l l) true := by
    unfold laws_eqStackS.f
    exact Ev.ifp rfl (eqStackS_l0 l h l.length 0 (by omega))
  unfold laws_eqPod.f
  exact Ev.ifp rfl (Ev.ifp rfl (Ev.bind this (Ev.ifp rfl (Ev.now _))))
theorem eqPodS_l0 (xs : List S79) (hn : xs.length ≤ 4194304) (hx : ∀ x ∈ xs, x.f2.length ≤ 4194304) : ∀ (d i : Nat), i + d = xs.length → Ev (fun k => laws_eqPodS.l0 k xs xs i) true
  | 0, i, h => Ev.unroll (by
      simp only [laws_eqPodS.l0]
      exact Ev.ifn (by omega) (Ev.now _))
  | d + 1, i, h => Ev.unroll (by
      have hi : i < xs.length := by omega
      have er : rd_T79 xs i = xs[i] := rd_struct_at hi
      simp only [laws_eqPodS.l0, er, wrap_sc (show i < 9223372036854775807 by omega)]
      exact Ev.ifp (by omega) (Ev.ifp (by omega) (Ev.ifp (by omega) (Ev.bind (eqPod_f _ _ _ (hx _ (List.getElem_mem hi))) (Ev.ifp rfl (eqPodS_l0 xs hn hx d (i + 1) (by omega)))))))
theorem eqStock_f (l : List S79) (h : l.length ≤ 4194304) (hx : ∀ x ∈ l, x.f2.length ≤ 4194304) : Ev (fun k => laws_eqStock.f k l l) true := by
  have : Ev (fun k => laws_eqPodS.f k l l) true := by
    unfold laws_eqPodS.f
    exact Ev.ifp rfl (eqPodS_l0 l h hx l.length 0 (by omega))
  unfold laws_eqStock.f
  exact Ev.bind this (Ev.ifp rfl (Ev.now _))

/-! #### StockArgN -/
theorem szPodS_n (xs : List S117) (hn : xs.length ≤ 1048576) (hx : ∀ x ∈ xs, x.f2.length ≤ 9223372036854775807) : ∀ (d i : Nat) (b : Int), i + d = xs.length → 0 ≤ b → b ≤ 1048576 →
    ∃ r : Int, Ev (fun k => laws_szPodS.l0 k xs b i) r ∧ (0 ≤ r → (∀ x ∈ xs.drop i, x.f2.length ≤ 1048576) ∧ r ≤ b)
  | 0, i, b, h, h0, h1 => ⟨b, Ev.unroll (by
      simp only [laws_szPodS.l0]
      exact Ev.ifn (by omega) (Ev.now _)), fun _ => ⟨fun x hx => (by rw [drop_end (by omega)] at hx; cases hx), by omega⟩⟩
  | d + 1, i, b, h, h0, h1 => by
      have hi : i < xs.length := by omega
      have er : rd_T117 xs i = xs[i] := rd_struct_at hi
      have hl := hx xs[i] (List.getElem_mem hi)
      have e := szPod_f xs[i].f0 xs[i].f1 xs[i].f2 b hl h0 h1
      by_cases hb : (xs[i].f2.length : Int) ≤ b
      · obtain ⟨r, hr, hr2⟩ := szPodS_n xs hn hx d (i + 1) (b - xs[i].f2.length) (by omega) (by omega) (by omega)
        refine ⟨r, Ev.unroll ?_, fun h4 => ⟨fun x hx => ?_, by have := (hr2 h4).2; omega⟩⟩
        · rw [if_pos hb] at e
          simp only [laws_szPodS.l0, er, e, some_bind]
          refine Ev.ifp (by omega) (Ev.ifp (by omega) (Ev.ifn (by omega) ?_))
          rw [wrap_sc (i := i) (by omega)]
          exact hr
        · rw [drop_cons hi] at hx
          rcases List.mem_cons.1 hx with rfl | hx
          · omega
          · exact (hr2 h4).1 x hx
      · refine ⟨-1, Ev.unroll ?_, fun h4 => by omega⟩
        rw [if_neg hb] at e
        simp only [laws_szPodS.l0, er, e, some_bind]
        exact Ev.ifp (by omega) (Ev.ifp (by omega) (Ev.ifp (by omega) (Ev.now _)))
theorem szStock_n (xs : List S117) (hn : xs.length ≤ 9223372036854775807) (hx : ∀ x ∈ xs, x.f2.length ≤ 9223372036854775807) :
    ∃ r : Int, Ev (fun k => laws_szStock.f k xs 1048576) r ∧ (0 ≤ r → xs.length ≤ 1048576 ∧ (∀ x ∈ xs, x.f2.length ≤ 1048576) ∧ r ≤ 1048576) := by
  unfold laws_szStock.f
  have key : ∃ r : Int, Ev (fun k => laws_szPodS.f k xs 1048576) r ∧ (0 ≤ r → xs.length ≤ 1048576 ∧ (∀ x ∈ xs, x.f2.length ≤ 1048576) ∧ r ≤ 1048576) := by
    unfold laws_szPodS.f
    by_cases hb : xs.length ≤ 1048576
    · obtain ⟨r, hr, hr2⟩ := szPodS_n xs hb hx xs.length 0 (1048576 - xs.length) (by omega) (by omega) (by omega)
      refine ⟨r, ?_, fun h4 => ⟨hb, fun x hx' => (hr2 h4).1 x hx', by have := (hr2 h4).2; omega⟩⟩
      rw [wrap_id (by omega) (by omega)]
      exact Ev.ifn (by omega) hr
    · refine ⟨-1, ?_, fun h4 => by omega⟩
      rw [wrap_id (by omega) (by omega)]
      exact Ev.ifp (by omega) (Ev.now _)
  obtain ⟨r, hr, hr2⟩ := key
  by_cases h0 : r < 0
  · exact ⟨-1, Ev.bind hr (Ev.ifp h0 (Ev.now _)), fun h => by omega⟩
  · exact ⟨r, Ev.bind hr (Ev.ifn h0 (Ev.now _)), hr2⟩

/-! #### PicksEq -/
theorem eqPick_f (r : S50) : laws_eqPick.f r.f0 r.f1 r.f2 r.f0 r.f1 r.f2 = some true := by
  unfold laws_eqPick.f
  simp
theorem eqPickS_l0 (xs : List S50) (hn : xs.length ≤ BIG) : ∀ (d i : Nat), i + d = xs.length → Ev (fun k => laws_eqPickS.l0 k xs xs i) true
  | 0, i, h => Ev.unroll (by
      simp only [laws_eqPickS.l0]
      simp only [if_neg (show ¬ (i : Int) < xs.length by omega)]
      exact Ev.now _)
  | d + 1, i, h => Ev.unroll (by
      have hi : i < xs.length := by omega
      simp only [laws_eqPickS.l0, eqPick_f, some_bind]
      simp only [if_pos (show (i : Int) < xs.length by omega), if_pos (show (0 : Int) ≤ i by omega), wrap_succ hi hn, if_true]
      exact eqPickS_l0 xs hn d (i + 1) (by omega))
theorem eqPickS_f (l : List S50) (h : l.length ≤ BIG) : Ev (fun k => laws_eqPickS.f k l l) true := by
  unfold laws_eqPickS.f
  simp only [if_true]
  exact eqPickS_l0 l h l.length 0 (by omega)

/-! #### Picks -/
theorem szPickS_f (l : List S104) (b : Int) (h : l.length ≤ 9223372036854775807) (h0 : 0 ≤ b) (h1 : b ≤ 1048576) : laws_szPickS.f l b = some (if (l.length : Int) ≤ b then b - (l.length : Int) else -1) := by
  unfold laws_szPickS.f
  rw [wrap_id (by omega) (by omega)]
  split <;> split <;> first | rfl | omega
def mkPick (a : S104) : S50 := ⟨a.f0, a.f1, a.f2⟩
theorem toPickS_l0 (xs : List S104) (hn : xs.length ≤ 1048576) : ∀ (d i : Nat) (ys zs : List S50), i + d = xs.length → ys.length = i → zs.length = d → ys = (xs.take i).map mkPick →
    Ev (fun k => laws_toPickS.l0 k xs (ys ++ zs) i) (xs.map mkPick)
  | 0, i, ys, zs, h, hy, hz, e => Ev.unroll (by
      simp only [laws_toPickS.l0]
      simp only [if_neg (show ¬ (i : Int) < xs.length by omega)]
      obtain rfl := List.length_eq_zero_iff.1 hz
      rw [e, List.take_of_length_le (by omega), List.append_nil]
      exact Ev.now _)
  | d + 1, i, ys, zs, h, hy, hz, e => Ev.unroll (by
      have hi : i < xs.length := by omega
      simp only [laws_toPickS.l0, laws_toPick.f, some_bind]
      simp only [if_pos (show (i : Int) < xs.length by omega), if_pos (show (0 : Int) ≤ i by omega), if_pos (show (i : Int) < (ys ++ zs).length by simp; omega), wrap_succ hi (by unfold BIG; omega), rd_T104, Int.toNat_natCast, getD_at hi]
      rw [fill_step ys zs _ hy.symm (by omega)]
      exact toPickS_l0 xs hn d (i + 1) _ _ (by omega) (by simp; omega) (by simp; omega) (by rw [List.take_succ_eq_append_getElem hi, List.map_append, ← e]; rfl))
theorem toPickS_f (l : List S104) (h : l.length ≤ 1048576) : Ev (fun k => laws_toPickS.f k l) (l.map mkPick) := by
  unfold laws_toPickS.f
  simp only [if_pos (show (0 : Int) ≤ l.length by omega), if_pos (show (l.length : Int).toNat ≤ 11728124029610 by omega)]
  rw [Int.toNat_natCast]
  exact toPickS_l0 l h l.length 0 [] _ (by omega) rfl (by simp) rfl

/-! #### MarkPicks -/
theorem markPickS_l0 (n : Nat) (hn : n ≤ 1048576) : ∀ (d i a : Nat) (zs : List S50), i + d = n → zs.length = n → a ≤ 1048576 * 1048576 * 1048576 + 3 * i → ∃ r : Int × List S50, Ev (fun k => laws_markPickS.l0 k zs (a : Int) i) r ∧ r.1 = ((a + 3 * d : Nat) : Int) ∧ r.2.length = n
  | 0, i, a, zs, h, hz, ha => ⟨((a : Int), zs), Ev.unroll (by
      simp only [laws_markPickS.l0, hz]
      simp only [if_neg (show ¬ (i : Int) < (n : Int) by omega)]
      exact Ev.now _), rfl, hz⟩
  | d + 1, i, a, zs, h, hz, ha => by
      have w1 : wrap64 ((a : Int) + 1) = ((a + 1 : Nat) : Int) := by unfold wrap64; omega
      have w2 : wrap64 (((a + 1 : Nat) : Int) + 1) = ((a + 2 : Nat) : Int) := by unfold wrap64; omega
      have w3 : wrap64 (((a + 2 : Nat) : Int) + 1) = ((a + 3 : Nat) : Int) := by unfold wrap64; omega
      obtain ⟨r, hr, h1, h2⟩ := markPickS_l0 n hn d (i + 1) (a + 3) (((zs.set i ⟨(a : Int), (rd_T50 zs i).f1, (rd_T50 zs i).f2⟩).set i ⟨(rd_T50 (zs.set i ⟨(a : Int), (rd_T50 zs i).f1, (rd_T50 zs i).f2⟩) i).f0, ((a + 1 : Nat) : Int), (rd_T50 (zs.set i ⟨(a : Int), (rd_T50 zs i).f1, (rd_T50 zs i).f2⟩) i).f2⟩).set i ⟨(rd_T50 ((zs.set i ⟨(a : Int), (rd_T50 zs i).f1, (rd_T50 zs i).f2⟩).set i ⟨(rd_T50 (zs.set i ⟨(a : Int), (rd_T50 zs i).f1, (rd_T50 zs i).f2⟩) i).f0, ((a + 1 : Nat) : Int), (rd_T50 (zs.set i ⟨(a : Int), (rd_T50 zs i).f1, (rd_T50 zs i).f2⟩) i).f2⟩) i).f0, (rd_T50 ((zs.set i ⟨(a : Int), (rd_T50 zs i).f1, (rd_T50 zs i).f2⟩).set i ⟨(rd_T50 (zs.set i ⟨(a : Int), (rd_T50 zs i).f1, (rd_T50 zs i).f2⟩) i).f0, ((a + 1 : Nat) : Int), (rd_T50 (zs.set i ⟨(a : Int), (rd_T50 zs i).f1, (rd_T50 zs i).f2⟩) i).f2⟩) i).f1, ((a + 2 : Nat) : Int)⟩) (by omega) (by simp only [List.length_set]; exact hz) (by omega)
      refine ⟨r, Ev.unroll ?_, by rw [h1]; congr 1; omega, h2⟩
      simp only [laws_markPickS.l0, hz, some_bind, Int.toNat_natCast]
      simp only [if_pos (show (i : Int) < (n : Int) by omega), if_pos (show (0 : Int) ≤ i by omega), wrap_succ (show i < n by omega) (show n ≤ BIG by unfold BIG; omega), w1, w2, w3]
      exact hr
theorem markPickS_f (l : List S50) (a : Nat) (hn : l.length ≤ 1048576) (ha : a ≤ 1048576 * 1048576 * 1048576) : ∃ r : Int × List S50, Ev (fun k => laws_markPickS.f k l (a : Int)) r ∧ r.1 = ((a + 3 * l.length : Nat) : Int) ∧ r.2.length = l.length := by
  exact markPickS_l0 l.length hn l.length 0 a l (by omega) rfl (by omega)

/-! #### In -/
/-- Between two bounds. -/
def inB (a b c : Int) : Bool := decide (b ≤ a ∧ a ≤ c)
theorem inB_iff {a b c : Int} : inB a b c = true ↔ b ≤ a ∧ a ≤ c := by unfold inB; exact decide_eq_true_iff
theorem inB_no {a b c : Int} : inB a b c = false ↔ ¬ (b ≤ a ∧ a ≤ c) := by rw [← inB_iff]; simp
theorem impl_in_f (a b c : Int) : impl_in.f a b c = some (inB a b c) := by
  unfold impl_in.f inB
  by_cases h : b ≤ a <;> by_cases h2 : a ≤ c <;> simp [h, h2]
theorem spec_l1In_f (a b c : Int) : spec_l1In.f a b c = some (inB a b c) := by
  unfold spec_l1In.f inB
  by_cases h : b ≤ a <;> by_cases h2 : a ≤ c <;> simp [h, h2]

/-! #### StockOk -/
/-! A stock that is right. -/
def stackAt (l : List S72) (j : Nat) : S72 := l.getD j z72
def podAtN (l : List S79) (j : Nat) : S79 := l.getD j z79
def stackOk (l : List S72) (j : Nat) : Bool := inB (stackAt l j).f0 1 50 && (inB (stackAt l j).f1 1 1000 && (inB (stackAt l j).f2 0 (stackAt l j).f1 && (decide (j = 0) || decide ((stackAt l (j - 1)).f0 < (stackAt l j).f0))))
def stacksOk (l : List S72) : Bool := allFrom l.length 0 (stackOk l)
def podOk (p : S79) : Bool := inB p.f0 1 999 && (inB p.f1 0 99 && (decide (p.f2.length ≤ 8) && stacksOk p.f2))
def homesOk (l : List S79) (i : Nat) : Nat → Bool := fun k => !decide ((podAtN l k).f1 = (podAtN l i).f1)
def podAtOk (l : List S79) (i : Nat) : Bool := podOk (podAtN l i) && ((decide (i = 0) || decide ((podAtN l (i - 1)).f0 < (podAtN l i).f0)) && allFrom i 0 (homesOk l i))
def stockOk (l : List S79) : Bool := decide (l.length ≤ 12) && allFrom l.length 0 (podAtOk l)
theorem rd_stack {l : List S72} {i : Nat} : rd_T72 l (i : Int) = stackAt l i := by unfold rd_T72 stackAt; rw [Int.toNat_natCast]
theorem rd_pod {l : List S79} {i : Nat} : rd_T79 l (i : Int) = podAtN l i := by unfold rd_T79 podAtN; rw [Int.toNat_natCast]
theorem wrap_pd {i : Nat} (h : i < 9223372036854775807) (h0 : 0 < i) : wrap64 ((i : Int) - 1) = ((i - 1 : Nat) : Int) := by unfold wrap64; omega
theorem spec_l5Stacks_l0 (l : List S72) (hn : l.length ≤ 4194304) : ∀ (d i : Nat), i + d = l.length → Ev (fun k => spec_l5Stacks.l0 k l i) (decide (l.length ≤ 8) && allFrom l.length i (stackOk l))
  | 0, i, h => Ev.unroll (by
      simp only [spec_l5Stacks.l0]
      refine Ev.ifn (by omega) (Ev.fin ?_)
      rw [allFrom_end (by omega), Bool.and_true, Bool.eq_iff_iff, decide_eq_true_eq, decide_eq_true_eq]; omega)
  | d + 1, i, h => Ev.unroll (by
      have hi : i < l.length := by omega
      have ih := spec_l5Stacks_l0 l hn d (i + 1) (by omega)
      simp only [spec_l5Stacks.l0, spec_l1In_f, some_bind, rd_stack, wrap_sc (show i < 9223372036854775807 by omega)]
      rw [allFrom_step hi]
      refine Ev.ifp (by omega) (Ev.ifp (by omega) ?_)
      have no : ∀ b : Bool, stackOk l i = false → Ev (fun _ : Nat => some false) (decide (l.length ≤ 8) && (stackOk l i && allFrom l.length (i + 1) (stackOk l))) := fun _ e => Ev.fin (by rw [e]; simp)
      refine ev_ite' (fun h1 => ev_ite' (fun h2 => ev_ite' (fun h3 => ?_) (fun h3 => no true ?_)) (fun h2 => no true ?_)) (fun h1 => no true ?_)
      · by_cases h0 : 0 < i
        · rw [wrap_pd (by omega) h0]
          simp only [rd_stack]
          refine Ev.ifp (by omega) (Ev.ifp (by omega) (Ev.ifp (by omega) ?_))
          refine ev_ite' (fun h4 => no true ?_) (fun h4 => ?_)
          · unfold stackOk; rw [h1, h2, h3, decide_eq_false (by omega), decide_eq_false (by omega)]; rfl
          · rw [show stackOk l i = true by unfold stackOk; rw [h1, h2, h3, decide_eq_true (show (stackAt l (i - 1)).f0 < (stackAt l i).f0 by omega), Bool.or_true]; rfl, Bool.true_and]
            exact ih
        · refine Ev.ifn (by omega) ?_
          rw [show stackOk l i = true by unfold stackOk; rw [h1, h2, h3, decide_eq_true (show i = 0 by omega), Bool.true_or]; rfl, Bool.true_and]
          exact ih
      · unfold stackOk; rw [Bool.not_eq_true] at h3; rw [h3]; simp
      · unfold stackOk; rw [Bool.not_eq_true] at h2; rw [h2]; simp
      · unfold stackOk; rw [Bool.not_eq_true] at h1; rw [h1]; simp)
theorem impl_podOk_l0 (x y : Int) (l : List S72) (hn : l.length ≤ 4194304) : ∀ (d i : Nat), i + d = l.length → Ev (fun k => impl_podOk.l0 k l l.length i x y l) (allFrom l.length i (stackOk l))
  | 0, i, h => Ev.unroll (by
      simp only [impl_podOk.l0]
      exact Ev.ifn (by omega) (Ev.fin (allFrom_end (by omega)).symm))
  | d + 1, i, h => Ev.unroll (by
      have hi : i < l.length := by omega
      have ih := impl_podOk_l0 x y l hn d (i + 1) (by omega)
      simp only [impl_podOk.l0, impl_in_f, some_bind, rd_stack, wrap_sc (show i < 9223372036854775807 by omega)]
      rw [allFrom_step hi]
      refine Ev.ifp (by omega) (Ev.ifp (by omega) (Ev.ifp (by omega) ?_))
      have no : ∀ b : Bool, stackOk l i = false → Ev (fun _ : Nat => some false) (stackOk l i && allFrom l.length (i + 1) (stackOk l)) := fun _ e => Ev.fin (by rw [e]; simp)
      refine ev_ite' (fun h1 => ev_ite' (fun h2 => ev_ite' (fun h3 => ?_) (fun h3 => no true ?_)) (fun h2 => no true ?_)) (fun h1 => no true ?_)
      · by_cases h0 : 0 < i
        · rw [wrap_pd (by omega) h0]
          simp only [rd_stack]
          refine Ev.ifp (by omega) (Ev.ifp (by omega) (Ev.ifp (by omega) ?_))
          refine ev_ite' (fun h4 => no true ?_) (fun h4 => ?_)
          · unfold stackOk; rw [h1, h2, h3, decide_eq_false (by omega), decide_eq_false (by omega)]; rfl
          · rw [show stackOk l i = true by unfold stackOk; rw [h1, h2, h3, decide_eq_true (show (stackAt l (i - 1)).f0 < (stackAt l i).f0 by omega), Bool.or_true]; rfl, Bool.true_and]
            exact ih
        · refine Ev.ifn (by omega) ?_
          rw [show stackOk l i = true by unfold stackOk; rw [h1, h2, h3, decide_eq_true (show i = 0 by omega), Bool.true_or]; rfl, Bool.true_and]
          exact ih
      · unfold stackOk; rw [Bool.not_eq_true] at h3; rw [h3]; simp
      · unfold stackOk; rw [Bool.not_eq_true] at h2; rw [h2]; simp
      · unfold stackOk; rw [Bool.not_eq_true] at h1; rw [h1]; simp)
theorem impl_podOk_f (p : S79) (hn : p.f2.length ≤ 4194304) : Ev (fun k => impl_podOk.f k p.f0 p.f1 p.f2) (podOk p) := by
  unfold impl_podOk.f
  simp only [impl_in_f, some_bind]
  have no : podOk p = false → Ev (fun k => impl_podOk.j0 k true p.f0 p.f1 p.f2) (podOk p) := fun e => Ev.unroll (by
    simp only [impl_podOk.j0]
    exact Ev.ifp trivial (Ev.fin e.symm))
  refine ev_ite' (fun h1 => ev_ite' (fun h2 => ?_) (fun h2 => no ?_)) (fun h1 => no ?_)
  · by_cases h3 : p.f2.length ≤ 8
    · rw [decide_eq_false (by omega)]
      refine Ev.unroll ?_
      simp only [impl_podOk.j0]
      rw [show podOk p = stacksOk p.f2 by unfold podOk; rw [h1, h2, decide_eq_true h3]; rfl]
      exact Ev.ifn (by simp) (impl_podOk_l0 _ _ p.f2 hn p.f2.length 0 (by omega))
    · rw [decide_eq_true (by omega)]
      exact no (by unfold podOk; rw [decide_eq_false h3]; simp)
  · unfold podOk; rw [Bool.not_eq_true] at h2; rw [h2]; simp
  · unfold podOk; rw [Bool.not_eq_true] at h1; rw [h1]; simp
theorem spec_StockOk_l1 (l : List S79) (i : Nat) (hn : l.length ≤ 4194304) (hi : i < l.length) (R : Bool) (hR : Ev (fun k => spec_StockOk.l0 k ((i + 1 : Nat) : Int) l) R) : ∀ (d j : Nat), j + d = i → Ev (fun k => spec_StockOk.l1 k i j l (podAtN l i).f0 (podAtN l i).f1 (podAtN l i).f2) (allFrom i j (homesOk l i) && R)
  | 0, j, h => Ev.unroll (by
      simp only [spec_StockOk.l1, wrap_sc (show i < 9223372036854775807 by omega)]
      rw [allFrom_end (by omega), Bool.true_and]
      exact Ev.ifn (by omega) hR)
  | d + 1, j, h => Ev.unroll (by
      have ih := spec_StockOk_l1 l i hn hi R hR d (j + 1) (by omega)
      simp only [spec_StockOk.l1, rd_pod, wrap_sc (show j < 9223372036854775807 by omega)]
      rw [allFrom_step (by omega)]
      refine Ev.ifp (by omega) (Ev.ifp (by omega) (Ev.ifp (by omega) ?_))
      refine ev_ite' (fun h1 => Ev.fin ?_) (fun h1 => ?_)
      · unfold homesOk; rw [decide_eq_true h1]; rfl
      · rw [show homesOk l i j = true by unfold homesOk; rw [decide_eq_false h1]; rfl, Bool.true_and]
        exact ih)
theorem spec_StockOk_l0 (l : List S79) (hn : l.length ≤ 4194304) (hx : ∀ x ∈ l, x.f2.length ≤ 4194304) : ∀ (d i : Nat), i + d = l.length → Ev (fun k => spec_StockOk.l0 k i l) (allFrom l.length i (podAtOk l))
  | 0, i, h => Ev.unroll (by
      simp only [spec_StockOk.l0]
      exact Ev.ifn (by omega) (Ev.fin (allFrom_end (by omega)).symm))
  | d + 1, i, h => Ev.unroll (by
      have hi : i < l.length := by omega
      have hp : (podAtN l i).f2.length ≤ 4194304 := by unfold podAtN; rw [getD_at hi]; exact hx _ (List.getElem_mem hi)
      have ih := spec_StockOk_l0 l hn hx d (i + 1) (by omega)
      have hs : Ev (fun k => spec_l5Stacks.f k (podAtN l i).f2) (decide ((podAtN l i).f2.length ≤ 8) && stacksOk (podAtN l i).f2) := spec_l5Stacks_l0 _ hp (podAtN l i).f2.length 0 (by omega)
      simp only [spec_StockOk.l0, spec_l1In_f, some_bind, rd_pod]
      rw [allFrom_step hi]
      refine Ev.ifp (by omega) (Ev.ifp (by omega) ?_)
      have no : podAtOk l i = false → Ev (fun k => spec_StockOk.j1 k i true l (podAtN l i).f0 (podAtN l i).f1 (podAtN l i).f2) (podAtOk l i && allFrom l.length (i + 1) (podAtOk l)) := fun e => Ev.unroll (by
        simp only [spec_StockOk.j1]
        exact Ev.ifp trivial (Ev.fin (by rw [e]; rfl)))
      have yes : podOk (podAtN l i) = true → (i = 0 ∨ (podAtN l (i - 1)).f0 < (podAtN l i).f0) → Ev (fun k => spec_StockOk.j1 k i false l (podAtN l i).f0 (podAtN l i).f1 (podAtN l i).f2) (podAtOk l i && allFrom l.length (i + 1) (podAtOk l)) := fun e e2 => Ev.unroll (by
        simp only [spec_StockOk.j1]
        rw [show podAtOk l i = allFrom i 0 (homesOk l i) by unfold podAtOk; rw [e, Bool.true_and, show (decide (i = 0) || decide ((podAtN l (i - 1)).f0 < (podAtN l i).f0)) = true by rcases e2 with h | h <;> simp [h], Bool.true_and]]
        exact Ev.ifn (by simp) (spec_StockOk_l1 l i hn hi _ ih i 0 (by omega)))
      refine ev_ite' (fun h1 => ev_ite' (fun h2 => Ev.bind hs (ev_ite' (fun h3 => ?_) (fun h3 => no ?_))) (fun h2 => no ?_)) (fun h1 => no ?_)
      · have hok : podOk (podAtN l i) = true := by unfold podOk; rw [h1, h2, h3]; rfl
        by_cases h0 : 0 < i
        · rw [wrap_pd (by omega) h0]
          simp only [rd_pod]
          refine Ev.ifp (by omega) (Ev.ifp (by omega) (Ev.ifp (by omega) ?_))
          by_cases h4 : (podAtN l (i - 1)).f0 ≥ (podAtN l i).f0
          · rw [decide_eq_true h4]
            exact no (by unfold podAtOk; rw [hok, decide_eq_false (by omega), decide_eq_false (by omega)]; rfl)
          · rw [decide_eq_false h4]
            exact yes hok (Or.inr (by omega))
        · exact Ev.ifn (by omega) (yes hok (Or.inl (by omega)))
      · unfold podAtOk podOk; rw [Bool.not_eq_true] at h3; rw [h3]; simp
      · unfold podAtOk podOk; rw [Bool.not_eq_true] at h2; rw [h2]; simp
      · unfold podAtOk podOk; rw [Bool.not_eq_true] at h1; rw [h1]; simp)
theorem spec_StockOk_f (l : List S79) (hn : l.length ≤ 4194304) (hx : ∀ x ∈ l, x.f2.length ≤ 4194304) : Ev (fun k => spec_StockOk.f k l) (stockOk l) := by
  unfold spec_StockOk.f stockOk
  by_cases h : l.length ≤ 12
  · rw [decide_eq_true h, Bool.true_and]
    exact Ev.ifn (by omega) (spec_StockOk_l0 l hn hx l.length 0 (by omega))
  · rw [decide_eq_false h, Bool.false_and]
    exact Ev.ifp (by omega) (Ev.now _)
theorem impl_StockOk_l1 (l ys : List S79) (i : Nat) (hn : l.length ≤ 4194304) (hi : i < l.length) (hy : ys = l.take i) (R : Bool) (hR : Ev (fun k => impl_StockOk.l0 k l l.length ((i + 1 : Nat) : Int) l) R) : ∀ (d j : Nat), j + d = i → Ev (fun k => impl_StockOk.l1 k l l.length i ys ys.length j l (podAtN l i).f0 (podAtN l i).f1 (podAtN l i).f2) (allFrom i j (homesOk l i) && R)
  | 0, j, h => Ev.unroll (by
      have hl : ys.length = i := by rw [hy]; simp; omega
      simp only [impl_StockOk.l1, wrap_sc (show i < 9223372036854775807 by omega)]
      rw [allFrom_end (by omega), Bool.true_and]
      exact Ev.ifn (by omega) hR)
  | d + 1, j, h => Ev.unroll (by
      have hl : ys.length = i := by rw [hy]; simp; omega
      have hj : podAtN ys j = podAtN l j := by unfold podAtN; rw [getD_at (by omega), getD_at (by omega)]; simp [hy]
      have ih := impl_StockOk_l1 l ys i hn hi hy R hR d (j + 1) (by omega)
      simp only [impl_StockOk.l1, rd_pod, wrap_sc (show j < 9223372036854775807 by omega)]
      rw [allFrom_step (by omega), hj]
      refine Ev.ifp (by omega) (Ev.ifp (by omega) (Ev.ifp (by omega) ?_))
      refine ev_ite' (fun h1 => Ev.fin ?_) (fun h1 => ?_)
      · unfold homesOk; rw [decide_eq_true h1]; rfl
      · rw [show homesOk l i j = true by unfold homesOk; rw [decide_eq_false h1]; rfl, Bool.true_and]
        exact ih)
theorem impl_StockOk_l0 (l : List S79) (hn : l.length ≤ 4194304) (hx : ∀ x ∈ l, x.f2.length ≤ 4194304) : ∀ (d i : Nat), i + d = l.length → Ev (fun k => impl_StockOk.l0 k l l.length i l) (allFrom l.length i (podAtOk l) && decide (l.length ≤ 12))
  | 0, i, h => Ev.unroll (by
      simp only [impl_StockOk.l0]
      refine Ev.ifn (by omega) (Ev.fin ?_)
      rw [allFrom_end (by omega), Bool.true_and, Bool.eq_iff_iff, decide_eq_true_eq, decide_eq_true_eq]; omega)
  | d + 1, i, h => Ev.unroll (by
      have hi : i < l.length := by omega
      have hp : (podAtN l i).f2.length ≤ 4194304 := by unfold podAtN; rw [getD_at hi]; exact hx _ (List.getElem_mem hi)
      have ih := impl_StockOk_l0 l hn hx d (i + 1) (by omega)
      have hs := impl_podOk_f (podAtN l i) hp
      simp only [impl_StockOk.l0, rd_pod]
      rw [allFrom_step hi]
      refine Ev.ifp (by omega) (Ev.ifp (by omega) (Ev.ifp (by omega) (Ev.bind hs ?_)))
      have no : podAtOk l i = false → Ev (fun k => impl_StockOk.j1 k i l l.length i true l (podAtN l i).f0 (podAtN l i).f1 (podAtN l i).f2) (podAtOk l i && allFrom l.length (i + 1) (podAtOk l) && decide (l.length ≤ 12)) := fun e => Ev.unroll (by
        simp only [impl_StockOk.j1]
        exact Ev.ifp trivial (Ev.fin (by rw [e]; rfl)))
      have yes : podOk (podAtN l i) = true → (i = 0 ∨ (podAtN l (i - 1)).f0 < (podAtN l i).f0) → Ev (fun k => impl_StockOk.j1 k i l l.length i false l (podAtN l i).f0 (podAtN l i).f1 (podAtN l i).f2) (podAtOk l i && allFrom l.length (i + 1) (podAtOk l) && decide (l.length ≤ 12)) := fun e e2 => Ev.unroll (by
        simp only [impl_StockOk.j1, some_bind, Int.toNat_natCast]
        rw [show podAtOk l i = allFrom i 0 (homesOk l i) by unfold podAtOk; rw [e, Bool.true_and, show (decide (i = 0) || decide ((podAtN l (i - 1)).f0 < (podAtN l i).f0)) = true by rcases e2 with h | h <;> simp [h], Bool.true_and], Bool.and_assoc]
        exact Ev.ifn (by simp) (Ev.ifp (by omega) (Ev.ifp (by omega) (impl_StockOk_l1 l _ i hn hi rfl _ ih i 0 (by omega)))))
      refine ev_ite' (fun hok => ?_) (fun hok => no ?_)
      · by_cases h0 : 0 < i
        · rw [wrap_pd (by omega) h0]
          simp only [rd_pod]
          refine Ev.ifp (by omega) (Ev.ifp (by omega) (Ev.ifp (by omega) ?_))
          by_cases h4 : (podAtN l (i - 1)).f0 ≥ (podAtN l i).f0
          · rw [decide_eq_true h4]
            exact no (by unfold podAtOk; rw [hok, decide_eq_false (by omega), decide_eq_false (by omega)]; rfl)
          · rw [decide_eq_false h4]
            exact yes hok (Or.inr (by omega))
        · exact Ev.ifn (by omega) (yes hok (Or.inl (by omega)))
      · unfold podAtOk; rw [Bool.not_eq_true] at hok; rw [hok]; simp)
theorem impl_StockOk_f (l : List S79) (hn : l.length ≤ 4194304) (hx : ∀ x ∈ l, x.f2.length ≤ 4194304) : Ev (fun k => impl_StockOk.f k l) (stockOk l) := by
  unfold impl_StockOk.f stockOk
  rw [Bool.and_comm]
  exact impl_StockOk_l0 l hn hx l.length 0 (by omega)

/-! #### StackOf -/
/-! The stack of a kind. -/
def lowIdx (l : List S72) (sku : Int) : Nat := (l.takeWhile (fun x => decide (x.f0 < sku))).length
def hitAt (l : List S72) (sku : Int) : Bool := decide (lowIdx l sku < l.length) && ((stackAt l (lowIdx l sku)).f0 == sku)
def stackOf (l : List S72) (sku : Int) : S72 := (l.find? (fun x => x.f0 == sku)).getD ⟨sku, 0, 0⟩
theorem lowIdx_le (l : List S72) (sku : Int) : lowIdx l sku ≤ l.length := by
  unfold lowIdx; exact (List.takeWhile_prefix _).length_le
theorem lowIdx_cons (x : S72) (l : List S72) (sku : Int) : lowIdx (x :: l) sku = if x.f0 < sku then lowIdx l sku + 1 else 0 := by
  unfold lowIdx
  rw [List.takeWhile_cons]
  by_cases h : x.f0 < sku <;> simp [h]
theorem hit_stack {sku : Int} : ∀ {l : List S72}, l.Pairwise (fun a b => a.f0 < b.f0) → (hitAt l sku = true → stackOf l sku = stackAt l (lowIdx l sku) ∧ (stackOf l sku).f0 = sku) ∧ (hitAt l sku = false → stackOf l sku = ⟨sku, 0, 0⟩ ∧ ∀ x ∈ l, x.f0 ≠ sku)
  | [], _ => ⟨fun h => by simp [hitAt] at h, fun _ => ⟨rfl, by simp⟩⟩
  | x :: t, hp => by
    have hs := List.pairwise_cons.1 hp
    have ih := hit_stack (sku := sku) hs.2
    have el := lowIdx_cons x t sku
    by_cases h1 : x.f0 < sku
    · rw [if_pos h1] at el
      have e1 : hitAt (x :: t) sku = hitAt t sku := by
        unfold hitAt stackAt
        rw [el, List.getD_cons_succ, List.length_cons]
        simp
      have e2 : stackOf (x :: t) sku = stackOf t sku := by
        unfold stackOf
        rw [List.find?_cons_of_neg (by simp; omega)]
      have e3 : stackAt (x :: t) (lowIdx (x :: t) sku) = stackAt t (lowIdx t sku) := by
        unfold stackAt; rw [el, List.getD_cons_succ]
      rw [e1, e2, e3]
      exact ⟨ih.1, fun h => ⟨(ih.2 h).1, fun y hy => by
        rcases List.mem_cons.1 hy with rfl | hy
        · omega
        · exact (ih.2 h).2 y hy⟩⟩
    · rw [if_neg h1] at el
      have e3 : stackAt (x :: t) (lowIdx (x :: t) sku) = x := by unfold stackAt; rw [el]; rfl
      by_cases h2 : x.f0 = sku
      · have e2 : stackOf (x :: t) sku = x := by unfold stackOf; rw [List.find?_cons_of_pos (by simpa using h2)]; rfl
        refine ⟨fun _ => ⟨by rw [e2, e3], by rw [e2]; exact h2⟩, fun h => ?_⟩
        unfold hitAt at h
        rw [e3, el] at h
        simp [h2] at h
      · have h4 : ∀ y ∈ x :: t, y.f0 ≠ sku := fun y hy => by
          rcases List.mem_cons.1 hy with rfl | hy
          · exact h2
          · have := hs.1 y hy; omega
        refine ⟨fun h => ?_, fun _ => ⟨?_, h4⟩⟩
        · unfold hitAt at h
          rw [e3] at h
          simp [h2] at h
        · unfold stackOf
          rw [List.find?_eq_none.2 (fun y hy => by simpa using h4 y hy)]; rfl
theorem stacks_facts {l : List S72} (h : stacksOk l = true) : l.Pairwise (fun a b => a.f0 < b.f0) ∧ ∀ x ∈ l, 1 ≤ x.f0 ∧ x.f0 ≤ 50 ∧ 1 ≤ x.f1 ∧ x.f1 ≤ 1000 ∧ 0 ≤ x.f2 ∧ x.f2 ≤ x.f1 := by
  unfold stacksOk at h
  rw [allFrom_iff] at h
  have hk : ∀ j, j < l.length → (1 ≤ (stackAt l j).f0 ∧ (stackAt l j).f0 ≤ 50 ∧ 1 ≤ (stackAt l j).f1 ∧ (stackAt l j).f1 ≤ 1000 ∧ 0 ≤ (stackAt l j).f2 ∧ (stackAt l j).f2 ≤ (stackAt l j).f1) ∧ (0 < j → (stackAt l (j - 1)).f0 < (stackAt l j).f0) := fun j hj => by
    have := h j (by omega) hj
    unfold stackOk at this
    simp only [Bool.and_eq_true, Bool.or_eq_true, inB_iff, decide_eq_true_eq] at this
    exact ⟨⟨this.1.1, this.1.2, this.2.1.1, this.2.1.2, this.2.2.1.1, this.2.2.1.2⟩, fun h0 => by rcases this.2.2.2 with h | h; omega; exact h⟩
  have step : ∀ (j i : Nat), i < j → j < l.length → (stackAt l i).f0 < (stackAt l j).f0 := by
    intro j
    induction j with
    | zero => intro i h; omega
    | succ j ih =>
      intro i h1 h2
      have h3 := (hk (j + 1) h2).2 (by omega)
      rw [Nat.add_sub_cancel] at h3
      by_cases e : i = j
      · subst e; exact h3
      · exact Int.lt_trans (ih i (by omega) (by omega)) h3
  refine ⟨List.pairwise_iff_getElem.2 fun i j hi hj hij => ?_, fun x hx => ?_⟩
  · have := step j i hij hj
    unfold stackAt at this
    rwa [getD_at hi, getD_at hj] at this
  · obtain ⟨j, hj, rfl⟩ := List.mem_iff_getElem.1 hx
    have := (hk j hj).1
    unfold stackAt at this
    rwa [getD_at hj] at this
structure PodFacts (p : S79) : Prop where
  id : 1 ≤ p.f0 ∧ p.f0 ≤ 999
  home : 0 ≤ p.f1 ∧ p.f1 ≤ 99
  len : p.f2.length ≤ 8
  stacks : stacksOk p.f2 = true
theorem stock_pods {l : List S79} (h : stockOk l = true) : l.length ≤ 12 ∧ ∀ i : Nat, i < l.length → PodFacts (podAtN l i) := by
  unfold stockOk at h
  simp only [Bool.and_eq_true, decide_eq_true_eq, allFrom_iff] at h
  refine ⟨h.1, fun i hi => ?_⟩
  have := h.2 i (by omega) hi
  unfold podAtOk podOk at this
  simp only [Bool.and_eq_true, inB_iff, decide_eq_true_eq] at this
  exact ⟨this.1.1, this.1.2.1, this.1.2.2.1, this.1.2.2.2⟩
theorem stackOf_bounds {l : List S72} (h : stacksOk l = true) (sku : Int) : 0 ≤ (stackOf l sku).f1 ∧ (stackOf l sku).f1 ≤ 1000 ∧ 0 ≤ (stackOf l sku).f2 ∧ (stackOf l sku).f2 ≤ (stackOf l sku).f1 := by
  have f := stacks_facts h
  unfold stackOf
  cases e : l.find? (fun x => x.f0 == sku) with
  | none => simp
  | some x =>
    have := f.2 x (List.mem_of_find?_eq_some e)
    simp only [Option.getD_some]; omega
theorem impl_stackAt_f (x y : Int) (l : List S72) (sku : Int) (hn : l.length ≤ 4194304) : Ev (fun k => impl_stackAt.f k x y l sku) ((lowIdx l sku : Nat), hitAt l sku) := by
  have key : ∀ (d i : Nat), i + d = l.length → i + lowIdx (l.drop i) sku = lowIdx l sku → Ev (fun k => impl_stackAt.l0 k sku i x y l) (((lowIdx l sku : Nat) : Int), hitAt l sku) := by
    intro d
    induction d with
    | zero =>
      intro i e hl
      refine Ev.unroll ?_
      simp only [impl_stackAt.l0]
      rw [drop_end (by omega)] at hl
      have : lowIdx l sku = i := by rw [← hl]; simp [lowIdx]
      refine Ev.ifn (by omega) (Ev.fin ?_)
      unfold hitAt
      rw [this, decide_eq_false (by omega)]; rfl
    | succ d ih =>
      intro i e hl
      have hi : i < l.length := by omega
      have ei : stackAt l i = l[i] := by unfold stackAt; exact getD_at hi
      refine Ev.unroll ?_
      simp only [impl_stackAt.l0, rd_stack, wrap_sc (show i < 9223372036854775807 by omega)]
      rw [drop_cons hi, lowIdx_cons, ← ei] at hl
      refine Ev.ifp (by omega) (Ev.ifp (by omega) (ev_ite' (fun h => ?_) (fun h => ?_)))
      · rw [if_pos h] at hl
        exact ih (i + 1) (by omega) (by omega)
      · rw [if_neg h] at hl
        have : lowIdx l sku = i := by omega
        refine Ev.fin ?_
        unfold hitAt
        rw [this, decide_eq_true hi, Bool.true_and]
  exact key l.length 0 (by omega) (by simp)

/-! #### StackSpec -/
theorem spec_l5Stack_f (x y : Int) (l : List S72) (sku : Int) (hn : l.length ≤ 4194304) : Ev (fun k => spec_l5Stack.f k x y l sku) ((stackOf l sku).f0, (stackOf l sku).f1, (stackOf l sku).f2) := by
  have key : ∀ (d i : Nat), i + d = l.length → stackOf (l.drop i) sku = stackOf l sku → Ev (fun k => spec_l5Stack.l0 k sku i x y l) ((stackOf l sku).f0, (stackOf l sku).f1, (stackOf l sku).f2) := by
    intro d
    induction d with
    | zero =>
      intro i e hl
      refine Ev.unroll ?_
      simp only [spec_l5Stack.l0]
      rw [drop_end (by omega)] at hl
      exact Ev.ifn (by omega) (Ev.fin (by rw [← hl]; rfl))
    | succ d ih =>
      intro i e hl
      have hi : i < l.length := by omega
      have ei : stackAt l i = l[i] := by unfold stackAt; exact getD_at hi
      refine Ev.unroll ?_
      simp only [spec_l5Stack.l0, rd_stack, wrap_sc (show i < 9223372036854775807 by omega), ei]
      rw [drop_cons hi] at hl
      refine Ev.ifp (by omega) (Ev.ifp (by omega) (ev_ite' (fun h => Ev.fin ?_) (fun h => ih (i + 1) (by omega) ?_)))
      · rw [← hl]; unfold stackOf; rw [List.find?_cons_of_pos (by simpa using h)]; rfl
      · rw [← hl]; unfold stackOf; rw [List.find?_cons_of_neg (by simpa using h)]
  exact key l.length 0 (by omega) rfl

/-! #### CountFree -/
/-- What there is of a kind, and what of it is not held, from place i on. -/
def countFrom (l : List S79) (sku : Int) : Nat → Nat → Int → Int
  | 0, _, acc => acc
  | d + 1, i, acc => countFrom l sku d (i + 1) (acc + (stackOf (podAtN l i).f2 sku).f1)
def freeFrom (l : List S79) (sku : Int) : Nat → Nat → Int → Int
  | 0, _, acc => acc
  | d + 1, i, acc => freeFrom l sku d (i + 1) (acc + ((stackOf (podAtN l i).f2 sku).f1 - (stackOf (podAtN l i).f2 sku).f2))
def countOf (l : List S79) (sku : Int) : Int := if stockOk l = true then countFrom l sku l.length 0 0 else 0
def freeOf (l : List S79) (sku : Int) : Int := if stockOk l = true then freeFrom l sku l.length 0 0 else 0
theorem pods_len {l : List S79} (hok : stockOk l = true) : l.length ≤ 4194304 ∧ ∀ x ∈ l, x.f2.length ≤ 4194304 := by
  have f := stock_pods hok
  refine ⟨by omega, fun x hx => ?_⟩
  obtain ⟨j, hj, rfl⟩ := List.mem_iff_getElem.1 hx
  have := (f.2 j hj).len
  unfold podAtN at this
  rw [getD_at hj] at this; omega
/-- What the place tells: the stack of the kind, or that there is none. -/
theorem hit_facts {l : List S72} (h : stacksOk l = true) (sku : Int) : (hitAt l sku = true → lowIdx l sku < l.length ∧ stackAt l (lowIdx l sku) = stackOf l sku) ∧ (hitAt l sku = false → (stackOf l sku).f1 = 0 ∧ (stackOf l sku).f2 = 0) := by
  have f := hit_stack (sku := sku) (stacks_facts h).1
  refine ⟨fun e => ⟨?_, (f.1 e).1.symm⟩, fun e => by rw [(f.2 e).1]; exact ⟨rfl, rfl⟩⟩
  unfold hitAt at e
  rw [Bool.and_eq_true, decide_eq_true_eq] at e
  exact e.1
/-! #### StockOps -/
/-! Copies, places, and stacks with one in the place of its like. -/
theorem impl_copyStock_f (l : List S79) (hn : l.length ≤ 4194304) (hx : ∀ x ∈ l, x.f2.length ≤ 4194304) : Ev (fun k => impl_copyStock.f k l) l := by
  have key : ∀ (d i : Nat), i + d = l.length → Ev (fun k => impl_copyStock.l0 k l (l.length : Int) i (l.take i)) l := by
    intro d
    induction d with
    | zero =>
      intro i e
      refine Ev.unroll ?_
      simp only [impl_copyStock.l0]
      exact Ev.ifn (by omega) (Ev.fin (List.take_of_length_le (by omega)))
    | succ d ih =>
      intro i e
      have hi : i < l.length := by omega
      have hb := hx _ (List.getElem_mem hi)
      have e1 : podAtN l i = l[i] := by unfold podAtN; exact getD_at hi
      refine Ev.unroll ?_
      simp only [impl_copyStock.l0, rd_pod, e1, List.nil_append, List.length_nil, List.length_take, wrap_sc (show i < 9223372036854775807 by omega)]
      refine Ev.ifp (by omega) (Ev.ifp (by omega) (Ev.ifp (by omega) (Ev.ifp (by omega) (Ev.ifp (by omega) ?_))))
      have h := ih (i + 1) (by omega)
      rw [List.take_succ_eq_append_getElem hi] at h
      exact h
  exact key l.length 0 (by omega)
theorem spec_l5Copy_f (l : List S79) (hn : l.length ≤ 4194304) (hx : ∀ x ∈ l, x.f2.length ≤ 4194304) : Ev (fun k => spec_l5Copy.f k l) l := by
  have key : ∀ (d i : Nat), i + d = l.length → Ev (fun k => spec_l5Copy.l0 k i l (l.take i)) l := by
    intro d
    induction d with
    | zero =>
      intro i e
      refine Ev.unroll ?_
      simp only [spec_l5Copy.l0]
      exact Ev.ifn (by omega) (Ev.fin (List.take_of_length_le (by omega)))
    | succ d ih =>
      intro i e
      have hi : i < l.length := by omega
      have hb := hx _ (List.getElem_mem hi)
      have e1 : podAtN l i = l[i] := by unfold podAtN; exact getD_at hi
      refine Ev.unroll ?_
      simp only [spec_l5Copy.l0, rd_pod, e1, some_bind, List.nil_append, List.length_nil, List.length_take, wrap_sc (show i < 9223372036854775807 by omega)]
      refine Ev.ifp (by omega) (Ev.ifp (by omega) (Ev.ifp (by omega) (Ev.ifp (by omega) ?_)))
      have h := ih (i + 1) (by omega)
      rw [List.take_succ_eq_append_getElem hi] at h
      exact h
  exact key l.length 0 (by omega)
def podIdx (l : List S79) (id : Int) : Int := match l.findIdx? (fun p => p.f0 == id) with
  | some i => (i : Int)
  | none => -1
theorem podIdx_bounds (l : List S79) (id : Int) : -1 ≤ podIdx l id ∧ podIdx l id < l.length := by
  unfold podIdx
  cases e : l.findIdx? (fun p => p.f0 == id) with
  | none => show -1 ≤ (-1 : Int) ∧ (-1 : Int) < l.length; omega
  | some i =>
    have := (List.findIdx?_eq_some_iff_getElem.1 e).1
    show -1 ≤ (i : Int) ∧ (i : Int) < l.length; omega
theorem podIdx_cons (p : S79) (l : List S79) (id : Int) : podIdx (p :: l) id = if p.f0 = id then 0 else if podIdx l id = -1 then -1 else podIdx l id + 1 := by
  unfold podIdx
  rw [List.findIdx?_cons]
  by_cases h : p.f0 = id
  · simp [h]
  · have hb : (p.f0 == id) = false := by simpa using h
    rw [hb]
    cases e : l.findIdx? (fun p => p.f0 == id) with
    | none => simp [h]
    | some i => simp [h]
theorem impl_podAt_f (l : List S79) (id : Int) (hn : l.length ≤ 4194304) : Ev (fun k => impl_podAt.f k l id) (podIdx l id) := by
  have key : ∀ (d i : Nat), i + d = l.length → Ev (fun k => impl_podAt.l0 k id l (l.length : Int) i) (if podIdx (l.drop i) id = -1 then -1 else (i : Int) + podIdx (l.drop i) id) := by
    intro d
    induction d with
    | zero =>
      intro i e
      refine Ev.unroll ?_
      simp only [impl_podAt.l0]
      rw [drop_end (by omega)]
      exact Ev.ifn (by omega) (Ev.fin (by simp [podIdx]))
    | succ d ih =>
      intro i e
      have hi : i < l.length := by omega
      have e1 : podAtN l i = l[i] := by unfold podAtN; exact getD_at hi
      have hb := podIdx_bounds (l.drop (i + 1)) id
      refine Ev.unroll ?_
      simp only [impl_podAt.l0, rd_pod, e1, wrap_sc (show i < 9223372036854775807 by omega)]
      rw [drop_cons hi, podIdx_cons]
      refine Ev.ifp (by omega) (Ev.ifp (by omega) (Ev.ifp (by omega) (ev_ite' (fun h => Ev.fin ?_) (fun h => ?_))))
      · rw [if_pos h, if_neg (by omega)]; omega
      · have h2 := ih (i + 1) (by omega)
        rw [if_neg h]
        refine Ev.congr (fun _ => rfl) (r := _) ?_
        by_cases h3 : podIdx (l.drop (i + 1)) id = -1
        · rw [if_pos h3] at h2; rw [if_pos h3, if_pos rfl]; exact h2
        · rw [if_neg h3] at h2
          rw [if_neg h3, if_neg (by omega)]
          rw [show (i : Int) + (podIdx (l.drop (i + 1)) id + 1) = ((i + 1 : Nat) : Int) + podIdx (l.drop (i + 1)) id by omega]
          exact h2
  have h := key l.length 0 (by omega)
  rw [List.drop_zero] at h
  have hb := podIdx_bounds l id
  rw [show (if podIdx l id = -1 then (-1 : Int) else ((0 : Nat) : Int) + podIdx l id) = podIdx l id by split <;> omega] at h
  exact h
theorem spec_l5Pod_f (l : List S79) (id : Int) (hn : l.length ≤ 4194304) : Ev (fun k => spec_l5Pod.f k l id) (podIdx l id) := by
  have key : ∀ (d i : Nat), i + d = l.length → Ev (fun k => spec_l5Pod.l0 k id i l) (if podIdx (l.drop i) id = -1 then -1 else (i : Int) + podIdx (l.drop i) id) := by
    intro d
    induction d with
    | zero =>
      intro i e
      refine Ev.unroll ?_
      simp only [spec_l5Pod.l0]
      rw [drop_end (by omega)]
      exact Ev.ifn (by omega) (Ev.fin (by simp [podIdx]))
    | succ d ih =>
      intro i e
      have hi : i < l.length := by omega
      have e1 : podAtN l i = l[i] := by unfold podAtN; exact getD_at hi
      have hb := podIdx_bounds (l.drop (i + 1)) id
      refine Ev.unroll ?_
      simp only [spec_l5Pod.l0, rd_pod, e1, wrap_sc (show i < 9223372036854775807 by omega)]
      rw [drop_cons hi, podIdx_cons]
      refine Ev.ifp (by omega) (Ev.ifp (by omega) (ev_ite' (fun h => Ev.fin ?_) (fun h => ?_)))
      · rw [if_pos h, if_neg (by omega)]; omega
      · have h2 := ih (i + 1) (by omega)
        rw [if_neg h]
        by_cases h3 : podIdx (l.drop (i + 1)) id = -1
        · rw [if_pos h3] at h2; rw [if_pos h3, if_pos rfl]; exact h2
        · rw [if_neg h3] at h2
          rw [if_neg h3, if_neg (by omega)]
          rw [show (i : Int) + (podIdx (l.drop (i + 1)) id + 1) = ((i + 1 : Nat) : Int) + podIdx (l.drop (i + 1)) id by omega]
          exact h2
  have h := key l.length 0 (by omega)
  rw [List.drop_zero] at h
  have hb := podIdx_bounds l id
  rw [show (if podIdx l id = -1 then (-1 : Int) else ((0 : Nat) : Int) + podIdx l id) = podIdx l id by split <;> omega] at h
  exact h
/-- Is what is asked of a stock in form? -/
def askOk (l : List S79) (sku n : Int) : Bool := stockOk l && (inB sku 1 50 && inB n 1 1000)
def placeOf (l : List S79) (id sku n : Int) : Int × Int := if askOk l sku n = true then (if 0 ≤ podIdx l id then (podIdx l id, 0) else (-1, 2)) else (-1, 1)
theorem impl_place_f (l : List S79) (id sku n : Int) (hn : l.length ≤ 4194304) (hx : ∀ x ∈ l, x.f2.length ≤ 4194304) : Ev (fun k => impl_place.f k l id sku n) (placeOf l id sku n) := by
  have hj : Ev (fun k => impl_place.j0 k id false l) (if 0 ≤ podIdx l id then (podIdx l id, 0) else (-1, 2)) := by
    refine Ev.unroll ?_
    simp only [impl_place.j0]
    refine Ev.ifn (by decide) (Ev.bind (impl_podAt_f l id hn) ?_)
    by_cases h : 0 ≤ podIdx l id
    · exact Ev.ifp h (Ev.fin (if_pos h).symm)
    · exact Ev.ifn (by omega) (Ev.fin (if_neg h).symm)
  have hf : Ev (fun k => impl_place.j0 k id true l) (((-1 : Int), (1 : Int))) := by
    refine Ev.unroll ?_
    simp only [impl_place.j0]
    exact Ev.ifp (by first | rfl | trivial) (Ev.now _)
  unfold impl_place.f placeOf askOk
  refine Ev.bind (impl_StockOk_f l hn hx) ?_
  simp only [impl_in_f, some_bind]
  cases h1 : stockOk l
  · simp only [Bool.false_and]; exact Ev.ifn (by decide) hf
  · refine Ev.ifp (by first | rfl | trivial) ?_
    cases h2 : inB sku 1 50
    · simp only [Bool.true_and, Bool.false_and]; exact Ev.ifn (by decide) hf
    · refine Ev.ifp (by first | rfl | trivial) ?_
      cases h3 : inB n 1 1000
      · exact hf
      · exact hj
theorem spec_l5Call_f (l : List S79) (id sku n : Int) (hn : l.length ≤ 4194304) (hx : ∀ x ∈ l, x.f2.length ≤ 4194304) :
    Ev (fun k => spec_l5Call.f k l id sku n) (if askOk l sku n = true then (if 0 ≤ podIdx l id then (podIdx l id, (stackOf (rd_T79 l (podIdx l id)).f2 sku).f0, (stackOf (rd_T79 l (podIdx l id)).f2 sku).f1, (stackOf (rd_T79 l (podIdx l id)).f2 sku).f2, 0) else (0, 0, 0, 0, 2)) else (0, 0, 0, 0, 1)) := by
  have hb := podIdx_bounds l id
  have hj : Ev (fun k => spec_l5Call.j0 k id sku false l) (if 0 ≤ podIdx l id then (podIdx l id, (stackOf (rd_T79 l (podIdx l id)).f2 sku).f0, (stackOf (rd_T79 l (podIdx l id)).f2 sku).f1, (stackOf (rd_T79 l (podIdx l id)).f2 sku).f2, 0) else (0, 0, 0, 0, 2)) := by
    refine Ev.unroll ?_
    simp only [spec_l5Call.j0]
    refine Ev.ifn (by decide) (Ev.bind (spec_l5Pod_f l id hn) ?_)
    by_cases h : 0 ≤ podIdx l id
    · rw [if_pos h]
      refine Ev.ifn (by omega) (Ev.ifp h (Ev.ifp hb.2 (Ev.bind (spec_l5Stack_f _ _ (rd_T79 l (podIdx l id)).f2 sku ?_) (Ev.now _))))
      obtain ⟨i, hi⟩ : ∃ i : Nat, podIdx l id = (i : Int) := ⟨(podIdx l id).toNat, by omega⟩
      rw [hi, rd_pod]
      unfold podAtN
      rw [getD_at (by omega)]
      exact hx _ (List.getElem_mem _)
    · rw [if_neg h]; exact Ev.ifp (by omega) (Ev.now _)
  have hf : Ev (fun k => spec_l5Call.j0 k id sku true l) (((0 : Int), (0 : Int), (0 : Int), (0 : Int), (1 : Int))) := by
    refine Ev.unroll ?_
    simp only [spec_l5Call.j0]
    exact Ev.ifp (by first | rfl | trivial) (Ev.now _)
  unfold spec_l5Call.f askOk
  refine Ev.bind (spec_StockOk_f l hn hx) ?_
  simp only [spec_l1In_f, some_bind]
  cases h1 : stockOk l
  · simp only [Bool.false_and]; exact Ev.ifn (by decide) hf
  · refine Ev.ifp (by first | rfl | trivial) ?_
    cases h2 : inB sku 1 50
    · simp only [Bool.true_and, Bool.false_and]; exact Ev.ifn (by decide) hf
    · refine Ev.ifp (by first | rfl | trivial) ?_
      cases h3 : inB n 1 1000
      · exact hf
      · exact hj
/-- Stacks with one in the place of its like, or in order; put: it is there already. -/
def insS (x : S72) : Bool → List S72 → List S72
  | b, [] => if b = true then [] else [x]
  | b, y :: ys => if (!b && decide (y.f0 ≥ x.f0)) = true then x :: (if y.f0 = x.f0 then insS x true ys else y :: insS x true ys) else (if y.f0 = x.f0 then insS x b ys else y :: insS x b ys)
theorem insS_true_len (x : S72) : ∀ l : List S72, (insS x true l).length ≤ l.length
  | [] => by simp [insS]
  | y :: ys => by
    have h1 := insS_true_len x ys
    unfold insS
    rw [if_neg (by simp)]
    split <;> simp only [List.length_cons] <;> omega
theorem insS_len (x : S72) : ∀ (b : Bool) (l : List S72), (insS x b l).length ≤ l.length + 1
  | b, [] => by unfold insS; split <;> simp
  | b, y :: ys => by
    have h1 := insS_true_len x ys
    have h2 := insS_len x b ys
    unfold insS
    split <;> split <;> simp only [List.length_cons] <;> omega
theorem spec_l5With_f (l : List S72) (x : S72) (hn : l.length ≤ 4194304) : Ev (fun k => spec_l5With.f k l x.f0 x.f1 x.f2) (insS x (x.f1 == 0) l) := by
  have key : ∀ (d i : Nat) (acc : List S72) (b : Bool), i + d = l.length → acc.length ≤ 2 * i → Ev (fun k => spec_l5With.l0 k l acc b i x.f0 x.f1 x.f2) (acc ++ insS x b (l.drop i)) := by
    intro d
    induction d with
    | zero =>
      intro i acc b e ha
      refine Ev.unroll ?_
      simp only [spec_l5With.l0]
      rw [drop_end (by omega)]
      refine Ev.ifn (by omega) ?_
      cases b
      · refine Ev.ifn (by decide) (Ev.ifp (by omega) (Ev.fin ?_))
        rfl
      · exact Ev.ifp (by first | rfl | trivial) (Ev.fin (by simp [insS]))
    | succ d ih =>
      intro i acc b e ha
      have hi : i < l.length := by omega
      have ei : stackAt l i = l[i] := by unfold stackAt; exact getD_at hi
      rw [drop_cons hi]
      refine Ev.unroll ?_
      simp only [spec_l5With.l0, rd_stack, ei]
      refine Ev.ifp (by omega) ?_
      have hw := wrap_sc (show i < 9223372036854775807 by omega)
      have hno : ∀ b : Bool, (!b && decide (l[i].f0 ≥ x.f0)) = false → Ev (fun k => spec_l5With.j1 k l acc b i false x.f0 x.f1 x.f2) (acc ++ insS x b (l[i] :: l.drop (i + 1))) := by
        intro b hb
        refine Ev.unroll ?_
        simp only [spec_l5With.j1, rd_stack, ei, hw]
        refine Ev.ifn (by decide) (Ev.ifp (by omega) (Ev.ifp (by omega) ?_))
        unfold insS
        rw [hb, if_neg (by decide)]
        by_cases h2 : l[i].f0 = x.f0
        · rw [if_pos h2]; exact Ev.ifp h2 (ih (i + 1) acc b (by omega) (by omega))
        · rw [if_neg h2]
          refine Ev.ifn h2 (Ev.ifp (by omega) ?_)
          have h3 := ih (i + 1) (acc ++ [l[i]]) b (by omega) (by simp; omega)
          rw [List.append_assoc] at h3
          exact h3
      cases b
      · refine Ev.ifn (by decide) (Ev.ifp (by omega) ?_)
        cases h1 : decide (l[i].f0 ≥ x.f0)
        · exact hno false (by rw [h1]; rfl)
        · refine Ev.unroll ?_
          simp only [spec_l5With.j1, rd_stack, ei, hw, some_bind]
          refine Ev.ifp (by first | rfl | trivial) (Ev.ifp (by omega) (Ev.ifp (by omega) (Ev.ifp (by omega) ?_)))
          unfold insS
          rw [h1, if_pos (by decide)]
          by_cases h2 : l[i].f0 = x.f0
          · rw [if_pos h2]
            refine Ev.ifp h2 ?_
            have h3 := ih (i + 1) (acc ++ [x]) true (by omega) (by simp; omega)
            rw [List.append_assoc] at h3
            exact h3
          · rw [if_neg h2]
            refine Ev.ifn h2 (Ev.ifp (by simp; omega) ?_)
            have h3 := ih (i + 1) (acc ++ [x] ++ [l[i]]) true (by omega) (by simp; omega)
            rw [show acc ++ [x] ++ [l[i]] ++ insS x true (l.drop (i + 1)) = acc ++ x :: l[i] :: insS x true (l.drop (i + 1)) by simp] at h3
            exact h3
      · exact Ev.ifp (by first | rfl | trivial) (hno true (by simp))
  have h := key l.length 0 [] (x.f1 == 0) (by omega) (by simp)
  rw [List.drop_zero, List.nil_append] at h
  exact h
theorem spec_l5Put_f (l : List S79) (i : Int) (x : S72) (hn : l.length ≤ 4194304) (hx : ∀ x ∈ l, x.f2.length ≤ 4194304) (h0 : 0 ≤ i) (h1 : i < l.length) :
    Ev (fun k => spec_l5Put.f k l i x.f0 x.f1 x.f2) (l.set i.toNat ⟨(rd_T79 l i).f0, (rd_T79 l i).f1, insS x (x.f1 == 0) (rd_T79 l i).f2⟩) := by
  unfold spec_l5Put.f
  have hb : (rd_T79 l i).f2.length ≤ 4194304 := by
    unfold rd_T79
    rw [getD_at (show i.toNat < l.length by omega)]
    exact hx _ (List.getElem_mem _)
  exact Ev.bind (spec_l5Copy_f l hn hx) (Ev.ifp h0 (Ev.ifp h1 (Ev.bind (spec_l5With_f _ x hb) (Ev.now _))))
/-- What l5With comes to over stacks in order. -/
theorem insS_gone (x : S72) : ∀ (l : List S72), (∀ y ∈ l, y.f0 ≠ x.f0) → insS x true l = l
  | [], _ => rfl
  | y :: ys, h => by
    unfold insS
    rw [if_neg (by simp), if_neg (h y List.mem_cons_self), insS_gone x ys (fun z hz => h z (List.mem_cons_of_mem _ hz))]
theorem insS_hit (x : S72) (b : Bool) : ∀ {l : List S72}, l.Pairwise (fun a b => a.f0 < b.f0) → hitAt l x.f0 = true → insS x b l = if b = true then l.take (lowIdx l x.f0) ++ l.drop (lowIdx l x.f0 + 1) else l.set (lowIdx l x.f0) x
  | [], _, h => by simp [hitAt] at h
  | y :: t, hp, h => by
    have hs := List.pairwise_cons.1 hp
    have el := lowIdx_cons y t x.f0
    by_cases h1 : y.f0 < x.f0
    · rw [if_pos h1] at el
      have e1 : hitAt t x.f0 = true := by
        rw [← h]
        unfold hitAt stackAt
        rw [el, List.getD_cons_succ, List.length_cons]
        simp
      have ih := insS_hit x b hs.2 e1
      unfold insS
      rw [if_neg (by simp; omega), if_neg (by omega), ih, el]
      cases b <;> simp
    · rw [if_neg h1] at el
      have h2 : y.f0 = x.f0 := by
        unfold hitAt stackAt at h
        rw [el] at h
        simpa using h
      have hg : insS x true t = t := insS_gone x t (fun z hz => by have := hs.1 z hz; omega)
      rw [el]
      cases b
      · unfold insS
        rw [if_pos (by simp; omega), if_pos h2, hg]
        rfl
      · unfold insS
        rw [if_neg (by simp), if_pos h2, hg]
        rfl
theorem insS_new (x : S72) : ∀ {l : List S72}, l.Pairwise (fun a b => a.f0 < b.f0) → (∀ y ∈ l, y.f0 ≠ x.f0) → insS x false l = l.take (lowIdx l x.f0) ++ x :: l.drop (lowIdx l x.f0)
  | [], _, _ => rfl
  | y :: t, hp, h => by
    have hs := List.pairwise_cons.1 hp
    have el := lowIdx_cons y t x.f0
    have h2 := h y List.mem_cons_self
    have ht : ∀ z ∈ t, z.f0 ≠ x.f0 := fun z hz => h z (List.mem_cons_of_mem _ hz)
    by_cases h1 : y.f0 < x.f0
    · rw [if_pos h1] at el
      have ih := insS_new x hs.2 ht
      unfold insS
      rw [if_neg (by simp; omega), if_neg h2, ih, el]
      rfl
    · rw [if_neg h1] at el
      unfold insS
      rw [if_pos (by simp; omega), if_neg h2, insS_gone x t ht, el]
      rfl

/-! #### HoldP -/
/-- What is held of a pod's stack is more by 'more'. -/
def heldOf (l : List S79) (id sku n more : Int) : List S79 × Int :=
  if askOk l sku n = true then (if 0 ≤ podIdx l id then
    (if hitAt (rd_T79 l (podIdx l id)).f2 sku = true ∧ 0 ≤ (stackOf (rd_T79 l (podIdx l id)).f2 sku).f2 + more ∧ (stackOf (rd_T79 l (podIdx l id)).f2 sku).f2 + more ≤ (stackOf (rd_T79 l (podIdx l id)).f2 sku).f1 then
      (l.set (podIdx l id).toNat ⟨(rd_T79 l (podIdx l id)).f0, (rd_T79 l (podIdx l id)).f1, (rd_T79 l (podIdx l id)).f2.set (lowIdx (rd_T79 l (podIdx l id)).f2 sku) ⟨sku, (stackOf (rd_T79 l (podIdx l id)).f2 sku).f1, (stackOf (rd_T79 l (podIdx l id)).f2 sku).f2 + more⟩⟩, 0)
    else (l, 3)) else (l, 2)) else (l, 1)
structure AskFacts (l : List S79) (id sku n : Int) : Prop where
  len : l.length ≤ 12
  idx : podIdx l id < l.length
  pod : podOk (rd_T79 l (podIdx l id)) = true
  st : stacksOk (rd_T79 l (podIdx l id)).f2 = true
  st8 : (rd_T79 l (podIdx l id)).f2.length ≤ 8
  sku : 1 ≤ sku ∧ sku ≤ 50
  n : 1 ≤ n ∧ n ≤ 1000
theorem ask_facts {l : List S79} {id sku n : Int} (h : askOk l sku n = true) (h0 : 0 ≤ podIdx l id) : AskFacts l id sku n := by
  unfold askOk at h
  simp only [Bool.and_eq_true, inB_iff] at h
  have hb := podIdx_bounds l id
  obtain ⟨i, hi⟩ : ∃ i : Nat, podIdx l id = (i : Int) := ⟨(podIdx l id).toNat, by omega⟩
  have hs := h.1
  unfold stockOk at hs
  simp only [Bool.and_eq_true, decide_eq_true_eq, allFrom_iff] at hs
  have hp := hs.2 i (by omega) (by omega)
  unfold podAtOk at hp
  simp only [Bool.and_eq_true] at hp
  have hq := hp.1
  have hq2 := hq
  unfold podOk at hq2
  simp only [Bool.and_eq_true, decide_eq_true_eq] at hq2
  rw [← rd_pod] at hq hq2
  rw [← hi] at hq hq2
  exact ⟨hs.1, hb.2, hq, hq2.2.2.2, hq2.2.2.1, h.2.1, h.2.2⟩
theorem impl_held_f (l : List S79) (id sku n more : Int) (hn : l.length ≤ 4194304) (hx : ∀ x ∈ l, x.f2.length ≤ 4194304) (hm : more = n ∨ more = -n) : Ev (fun k => impl_held.f k l id sku n more) (heldOf l id sku n more) := by
  unfold impl_held.f heldOf
  refine Ev.bind (impl_copyStock_f l hn hx) (Ev.bind (impl_place_f l id sku n hn hx) ?_)
  unfold placeOf
  by_cases ha : askOk l sku n = true
  · rw [if_pos ha, if_pos ha]
    by_cases h0 : 0 ≤ podIdx l id
    · have f := ask_facts ha h0
      rw [if_pos h0, if_pos h0]
      have hf := stackOf_bounds f.st sku
      have hh := hit_facts f.st sku
      have hs := hit_stack (sku := sku) (stacks_facts f.st).1
      refine Ev.ifp (by first | rfl | trivial) (Ev.ifp h0 (Ev.ifp f.idx (Ev.bind (impl_stackAt_f _ _ (rd_T79 l (podIdx l id)).f2 sku (by have := f.st8; omega)) ?_)))
      generalize hp : rd_T79 l (podIdx l id) = p at *
      have hfn := f.n
      cases hit : hitAt p.f2 sku
      · refine Ev.ifn (by simp) (Ev.fin ?_)
        rw [if_neg (fun h => by cases h.1)]
      · have h1 := hh.1 hit
        have h2 := hs.1 hit
        have e1 : rd_T72 p.f2 ((lowIdx p.f2 sku : Nat) : Int) = stackOf p.f2 sku := by rw [rd_stack]; exact h1.2
        have hw : wrap64 ((stackOf p.f2 sku).f2 + more) = (stackOf p.f2 sku).f2 + more := wrap_id (by omega) (by omega)
        refine Ev.ifp (by first | rfl | trivial) (Ev.ifp (by omega) (Ev.ifp (by omega) ?_))
        simp only [e1, impl_in_f, some_bind, hw, Int.toNat_natCast]
        by_cases hc : 0 ≤ (stackOf p.f2 sku).f2 + more ∧ (stackOf p.f2 sku).f2 + more ≤ (stackOf p.f2 sku).f1
        · refine Ev.ifp (inB_iff.2 hc) (Ev.fin ?_)
          rw [if_pos (by exact ⟨by first | rfl | trivial, hc⟩), h2.2]
        · refine Ev.ifn (fun h => hc (inB_iff.1 h)) (Ev.fin ?_)
          rw [if_neg (fun h => hc h.2)]
    · rw [if_neg h0, if_neg h0]
      exact Ev.ifn (by decide) (Ev.now _)
  · rw [if_neg ha, if_neg ha]
    exact Ev.ifn (by decide) (Ev.now _)
theorem spec_Hold_f (l : List S79) (id sku n : Int) (hn : l.length ≤ 4194304) (hx : ∀ x ∈ l, x.f2.length ≤ 4194304) : Ev (fun k => spec_Hold.f k l id sku n) (heldOf l id sku n n) := by
  unfold spec_Hold.f heldOf
  refine Ev.bind (spec_l5Call_f l id sku n hn hx) ?_
  by_cases ha : askOk l sku n = true
  · rw [if_pos ha, if_pos ha]
    by_cases h0 : 0 ≤ podIdx l id
    · have f := ask_facts ha h0
      rw [if_pos h0, if_pos h0]
      have hf := stackOf_bounds f.st sku
      have hh := hit_facts f.st sku
      have hs := hit_stack (sku := sku) (stacks_facts f.st).1
      have hfn := f.n
      have hst := (stacks_facts f.st).1
      refine Ev.ifp (by first | rfl | trivial) ?_
      have hput := spec_l5Put_f l (podIdx l id) ⟨(stackOf (rd_T79 l (podIdx l id)).f2 sku).f0, (stackOf (rd_T79 l (podIdx l id)).f2 sku).f1, (stackOf (rd_T79 l (podIdx l id)).f2 sku).f2 + n⟩ hn hx h0 f.idx
      generalize hp : rd_T79 l (podIdx l id) = p at *
      simp only [wrap_id (x := (stackOf p.f2 sku).f1 - (stackOf p.f2 sku).f2) (by omega) (by omega), wrap_id (x := (stackOf p.f2 sku).f2 + n) (by omega) (by omega)]
      cases hit : hitAt p.f2 sku
      · have h1 := hh.2 hit
        refine Ev.ifp (by omega) (Ev.bind (spec_l5Copy_f l hn hx) (Ev.fin ?_))
        rw [if_neg (fun h => by cases h.1)]
      · have h2 := hs.1 hit
        by_cases hc : (stackOf p.f2 sku).f1 - (stackOf p.f2 sku).f2 < n
        · refine Ev.ifp hc (Ev.bind (spec_l5Copy_f l hn hx) (Ev.fin ?_))
          rw [if_neg (fun h => by omega)]
        · refine Ev.ifn hc (Ev.bind hput (Ev.fin ?_))
          have hN : 1 ≤ (stackOf p.f2 sku).f1 := by omega
          rw [if_pos ⟨rfl, by omega, by omega⟩]
          have hi := insS_hit ⟨(stackOf p.f2 sku).f0, (stackOf p.f2 sku).f1, (stackOf p.f2 sku).f2 + n⟩ false hst (by show hitAt p.f2 (stackOf p.f2 sku).f0 = true; rw [h2.2]; exact hit)
          dsimp only at hi
          rw [show ((stackOf p.f2 sku).f1 == 0) = false by simp; omega, hi, h2.2, if_neg (by decide)]
    · rw [if_neg h0, if_neg h0]
      refine Ev.ifn (by decide) (Ev.bind (spec_l5Copy_f l hn hx) (Ev.now _))
  · rw [if_neg ha, if_neg ha]
    exact Ev.ifn (by decide) (Ev.bind (spec_l5Copy_f l hn hx) (Ev.now _))

/-! #### ReleaseP -/
theorem impl_Release_f (l : List S79) (id sku n : Int) (hn : l.length ≤ 4194304) (hx : ∀ x ∈ l, x.f2.length ≤ 4194304) : Ev (fun k => impl_Release.f k l id sku n) (heldOf l id sku n (-n)) := by
  unfold impl_Release.f
  simp only [impl_in_f, some_bind]
  cases h : inB n 1 1000
  · refine Ev.ifn (by decide) (Ev.bind (impl_copyStock_f l hn hx) (Ev.fin ?_))
    unfold heldOf askOk
    rw [h, Bool.and_false, Bool.and_false, if_neg (by decide)]
  · have hb := inB_iff.1 h
    rw [wrap_id (x := -n) (by omega) (by omega)]
    exact Ev.ifp rfl (Ev.bind (impl_held_f l id sku n (-n) hn hx (.inr rfl)) (Ev.now _))
theorem spec_Release_f (l : List S79) (id sku n : Int) (hn : l.length ≤ 4194304) (hx : ∀ x ∈ l, x.f2.length ≤ 4194304) : Ev (fun k => spec_Release.f k l id sku n) (heldOf l id sku n (-n)) := by
  unfold spec_Release.f heldOf
  refine Ev.bind (spec_l5Call_f l id sku n hn hx) ?_
  by_cases ha : askOk l sku n = true
  · rw [if_pos ha, if_pos ha]
    by_cases h0 : 0 ≤ podIdx l id
    · have f := ask_facts ha h0
      rw [if_pos h0, if_pos h0]
      have hf := stackOf_bounds f.st sku
      have hh := hit_facts f.st sku
      have hs := hit_stack (sku := sku) (stacks_facts f.st).1
      have hfn := f.n
      have hst := (stacks_facts f.st).1
      have hsf := (stacks_facts f.st).2
      have h8 := f.st8
      refine Ev.ifp (by first | rfl | trivial) ?_
      have hput := spec_l5Put_f l (podIdx l id) ⟨(stackOf (rd_T79 l (podIdx l id)).f2 sku).f0, (stackOf (rd_T79 l (podIdx l id)).f2 sku).f1, (stackOf (rd_T79 l (podIdx l id)).f2 sku).f2 - n⟩ hn hx h0 f.idx
      generalize hp : rd_T79 l (podIdx l id) = p at *
      simp only [wrap_id (x := (stackOf p.f2 sku).f2 - n) (by omega) (by omega)]
      cases hit : hitAt p.f2 sku
      · have h1 := hh.2 hit
        refine Ev.ifp (by omega) (Ev.bind (spec_l5Copy_f l hn hx) (Ev.fin ?_))
        rw [if_neg (fun h => by cases h.1)]
      · have h2 := hs.1 hit
        have h1 := hh.1 hit
        by_cases hc : (stackOf p.f2 sku).f2 < n
        · refine Ev.ifp hc (Ev.bind (spec_l5Copy_f l hn hx) (Ev.fin ?_))
          rw [if_neg (fun h => by omega)]
        · refine Ev.ifn hc (Ev.bind hput (Ev.fin ?_))
          have hN : 1 ≤ (stackOf p.f2 sku).f1 := by omega
          rw [if_pos ⟨rfl, by omega, by omega⟩]
          have hi := insS_hit ⟨(stackOf p.f2 sku).f0, (stackOf p.f2 sku).f1, (stackOf p.f2 sku).f2 - n⟩ false hst (by show hitAt p.f2 (stackOf p.f2 sku).f0 = true; rw [h2.2]; exact hit)
          dsimp only at hi
          rw [show ((stackOf p.f2 sku).f1 == 0) = false by simp; omega, hi, h2.2, if_neg (by decide), Int.sub_eq_add_neg]
    · rw [if_neg h0, if_neg h0]
      refine Ev.ifn (by decide) (Ev.bind (spec_l5Copy_f l hn hx) (Ev.now _))
  · rw [if_neg ha, if_neg ha]
    exact Ev.ifn (by decide) (Ev.bind (spec_l5Copy_f l hn hx) (Ev.now _))

/-! #### HeldLen -/
theorem heldOf_len (l : List S79) (id sku n more : Int) (hn : l.length ≤ 1048576) (hx : ∀ x ∈ l, x.f2.length ≤ 1048576) : (heldOf l id sku n more).1.length ≤ 4194304 ∧ ∀ x ∈ (heldOf l id sku n more).1, x.f2.length ≤ 4194304 := by
  have base : l.length ≤ 4194304 ∧ ∀ x ∈ l, x.f2.length ≤ 4194304 := ⟨by omega, fun x h => by have := hx x h; omega⟩
  unfold heldOf
  split
  · split
    · rename_i ha h0
      have f := ask_facts ha h0
      split
      · refine ⟨by simp only [List.length_set]; omega, fun x h => ?_⟩
        rcases List.mem_or_eq_of_mem_set h with h | rfl
        · exact base.2 x h
        · have := f.st8; simp only [List.length_set]; omega
      · exact base
    · exact base
  · exact base

/-! #### MarkStock -/
/-- a, a + 1, .. in the places of a stock. -/
def marksS : Nat → Nat → List S72
  | 0, _ => []
  | n + 1, a => ⟨(a : Int), ((a + 1 : Nat) : Int), ((a + 2 : Nat) : Int)⟩ :: marksS n (a + 3)
theorem marksS_length : ∀ n a, (marksS n a).length = n
  | 0, _ => rfl
  | n + 1, a => by simp [marksS, marksS_length n]
theorem marksS_get : ∀ (n a i : Nat), i < n → stackAt (marksS n a) i = ⟨((a + 3 * i : Nat) : Int), ((a + 3 * i + 1 : Nat) : Int), ((a + 3 * i + 2 : Nat) : Int)⟩
  | 0, _, _, h => by omega
  | n + 1, a, 0, _ => by simp [marksS, stackAt]
  | n + 1, a, i + 1, h => by
    have := marksS_get n (a + 3) i (by omega)
    unfold stackAt at this ⊢
    rw [marksS, List.getD_cons_succ, this]
    congr 1 <;> congr 1 <;> omega
theorem marksS_succ : ∀ (n a : Nat), marksS (n + 1) a = marksS n a ++ [⟨((a + 3 * n : Nat) : Int), ((a + 3 * n + 1 : Nat) : Int), ((a + 3 * n + 2 : Nat) : Int)⟩]
  | 0, a => rfl
  | n + 1, a => by
    rw [marksS, marksS_succ n (a + 3), marksS]
    simp only [List.cons_append]
    congr 3
    congr 1 <;> congr 1 <;> omega
theorem getD_mid {α : Type} (ys zs : List α) (x d : α) (i : Nat) (h : i = ys.length) : (ys ++ x :: zs).getD i d = x := by subst h; simp [List.getD_eq_getElem?_getD]
theorem wrap_n (x : Nat) (h : x + 1 ≤ BIG) : wrap64 ((x : Int) + 1) = ((x + 1 : Nat) : Int) := by unfold wrap64; unfold BIG at h; omega
theorem markStackS_f (l : List S72) (a : Nat) (hn : a + 3 * l.length + 3 ≤ BIG) : Ev (fun k => laws_markStackS.f k l (a : Int)) (((a + 3 * l.length : Nat) : Int), marksS l.length a) := by
  have key : ∀ (d i : Nat) (zs : List S72), i + d = l.length → zs.length = d → Ev (fun k => laws_markStackS.l0 k (marksS i a ++ zs) ((a + 3 * i : Nat) : Int) i) (((a + 3 * l.length : Nat) : Int), marksS l.length a) := by
    intro d
    induction d with
    | zero =>
      intro i zs e hz
      obtain rfl := List.length_eq_zero_iff.1 hz
      obtain rfl : i = l.length := by omega
      refine Ev.unroll ?_
      simp only [laws_markStackS.l0, List.append_nil, marksS_length]
      exact Ev.ifn (by omega) (Ev.now _)
    | succ d ih =>
      intro i zs e hz
      have hl : (marksS i a ++ zs).length = l.length := by rw [List.length_append, marksS_length]; omega
      have hw := wrap_n (a + 3 * i) (by omega)
      have hw1 := wrap_n (a + 3 * i + 1) (by omega)
      have hw2 := wrap_n (a + 3 * i + 2) (by omega)
      refine Ev.unroll ?_
      simp only [laws_markStackS.l0, hl, some_bind, Int.toNat_natCast, hw, hw1, hw2, wrap_n i (by omega)]
      refine Ev.ifp (by omega) (Ev.ifp (by omega) ?_)
      match zs, hz with
      | z :: zs, hz =>
        have es : ∀ x : S72, (marksS i a ++ z :: zs).set i x = marksS i a ++ x :: zs := fun x => by rw [List.set_append_right _ _ (by rw [marksS_length]; omega), marksS_length, Nat.sub_self]; rfl
        have es2 : ∀ x y : S72, (marksS i a ++ x :: zs).set i y = marksS i a ++ y :: zs := fun x y => by rw [List.set_append_right _ _ (by rw [marksS_length]; omega), marksS_length, Nat.sub_self]; rfl
        have er : ∀ x : S72, rd_T72 (marksS i a ++ x :: zs) (i : Int) = x := fun x => by
          rw [rd_stack]; unfold stackAt
          exact getD_mid _ _ _ _ _ (marksS_length i a).symm
        simp only [es, es2, er]
        have h := ih (i + 1) zs (by omega) (by simpa using hz)
        rw [marksS_succ, List.append_assoc] at h
        rw [show a + 3 * (i + 1) = a + 3 * i + 2 + 1 by omega] at h
        exact h
  exact key l.length 0 l (by omega) rfl
theorem heldStackS_f (n a : Nat) (hn : a + 3 * n + 3 ≤ BIG) : Ev (fun k => laws_heldStackS.f k (marksS n a) (a : Int)) ((a + 3 * n : Nat) : Int) := by
  have key : ∀ (d i : Nat), i + d = n → Ev (fun k => laws_heldStackS.l0 k (marksS n a) ((a + 3 * i : Nat) : Int) i) ((a + 3 * n : Nat) : Int) := by
    intro d
    induction d with
    | zero =>
      intro i e
      obtain rfl : i = n := by omega
      refine Ev.unroll ?_
      simp only [laws_heldStackS.l0, marksS_length]
      exact Ev.ifn (by omega) (Ev.now _)
    | succ d ih =>
      intro i e
      have hw := wrap_n (a + 3 * i) (by omega)
      have hw1 := wrap_n (a + 3 * i + 1) (by omega)
      have hw2 := wrap_n (a + 3 * i + 2) (by omega)
      refine Ev.unroll ?_
      simp only [laws_heldStackS.l0, marksS_length, rd_stack, marksS_get n a i (by omega), hw, hw1, hw2, wrap_n i (by omega)]
      refine Ev.ifp (by omega) (Ev.ifp (by omega) (Ev.ifp (by first | rfl | trivial) (Ev.ifp (by first | rfl | trivial) (Ev.ifp (by first | rfl | trivial) ?_))))
      have h := ih (i + 1) (by omega)
      rw [show a + 3 * (i + 1) = a + 3 * i + 2 + 1 by omega] at h
      exact h
  exact key n 0 (by omega)
def marksP : List S79 → Nat → List S79
  | [], _ => []
  | p :: ps, a => ⟨(a : Int), ((a + 1 : Nat) : Int), marksS p.f2.length (a + 2)⟩ :: marksP ps (a + 2 + 3 * p.f2.length)
def endP : List S79 → Nat → Nat
  | [], a => a
  | p :: ps, a => endP ps (a + 2 + 3 * p.f2.length)
theorem endP_le : ∀ (l : List S79) (a : Nat), (∀ x ∈ l, x.f2.length ≤ 4194304) → endP l a ≤ a + 20000000 * l.length
  | [], a, _ => by simp [endP]
  | p :: ps, a, h => by
    have h1 := endP_le ps (a + 2 + 3 * p.f2.length) (fun x hx => h x (List.mem_cons_of_mem _ hx))
    have h2 := h p List.mem_cons_self
    simp only [endP, List.length_cons]
    omega
theorem endP_ge : ∀ (l : List S79) (a : Nat), a ≤ endP l a
  | [], a => Nat.le_refl _
  | p :: ps, a => by have := endP_ge ps (a + 2 + 3 * p.f2.length); simp only [endP]; omega
theorem marksP_length : ∀ l a, (marksP l a).length = l.length
  | [], _ => rfl
  | p :: ps, a => by simp [marksP, marksP_length ps]
theorem markPodS_l0 : ∀ (l ys : List S79) (a : Nat), endP l a + 10 ≤ BIG → ys.length + l.length ≤ 4194304 → Ev (fun k => laws_markPodS.l0 k (ys ++ l) (a : Int) ys.length) (((endP l a : Nat) : Int), ys ++ marksP l a)
  | [], ys, a, h, hl => Ev.unroll (by
      simp only [laws_markPodS.l0, List.append_nil, marksP]
      exact Ev.ifn (by omega) (Ev.now _))
  | p :: ps, ys, a, h, hl => Ev.unroll (by
      have hge := endP_ge ps (a + 2 + 3 * p.f2.length)
      simp only [endP] at h
      simp only [List.length_cons] at hl
      have hw := wrap_n a (by omega)
      have hw1 := wrap_n (a + 1) (by omega)
      have er : rd_T79 (ys ++ p :: ps) (ys.length : Int) = p := by
        rw [rd_pod]; unfold podAtN
        exact getD_mid _ _ _ _ _ rfl
      simp only [laws_markPodS.l0, er, hw, hw1, wrap_n ys.length (by unfold BIG; omega), Int.toNat_natCast]
      refine Ev.ifp (by simp only [List.length_append, List.length_cons]; omega) (Ev.ifp (by omega) (Ev.bind (markStackS_f p.f2 (a + 1 + 1) (by omega)) ?_))
      have es : (ys ++ p :: ps).set ys.length ⟨(a : Int), ((a + 1 : Nat) : Int), marksS p.f2.length (a + 1 + 1)⟩ = (ys ++ [⟨(a : Int), ((a + 1 : Nat) : Int), marksS p.f2.length (a + 1 + 1)⟩]) ++ ps := by
        rw [List.set_append_right _ _ (Nat.le_refl _), Nat.sub_self]; simp
      have ih := markPodS_l0 ps (ys ++ [⟨(a : Int), ((a + 1 : Nat) : Int), marksS p.f2.length (a + 1 + 1)⟩]) (a + 2 + 3 * p.f2.length) h (by simp only [List.length_append, List.length_singleton]; omega)
      simp only [es]
      rw [List.length_append, List.length_singleton] at ih
      rw [show ys ++ marksP (p :: ps) a = (ys ++ [⟨(a : Int), ((a + 1 : Nat) : Int), marksS p.f2.length (a + 1 + 1)⟩]) ++ marksP ps (a + 2 + 3 * p.f2.length) by simp [marksP]]
      exact ih)
theorem markStock_f (l : List S79) (hn : l.length ≤ 4194304) (hx : ∀ x ∈ l, x.f2.length ≤ 4194304) : Ev (fun k => laws_markStock.f k l 1) (((endP l 1 : Nat) : Int), marksP l 1) := by
  have h := endP_le l 1 hx
  exact markPodS_l0 l [] 1 (by unfold BIG; omega) (by simp; omega)
theorem heldPodS_l0 : ∀ (l ys : List S79) (a : Nat), endP l a + 10 ≤ BIG → ys.length + l.length ≤ 4194304 → Ev (fun k => laws_heldPodS.l0 k (ys ++ marksP l a) (a : Int) ys.length) ((endP l a : Nat) : Int)
  | [], ys, a, h, hl => Ev.unroll (by
      simp only [laws_heldPodS.l0, List.append_nil, marksP]
      exact Ev.ifn (by omega) (Ev.now _))
  | p :: ps, ys, a, h, hl => Ev.unroll (by
      have hge := endP_ge ps (a + 2 + 3 * p.f2.length)
      simp only [endP] at h
      simp only [List.length_cons] at hl
      have hw := wrap_n a (by omega)
      have hw1 := wrap_n (a + 1) (by omega)
      rw [marksP]
      have er : rd_T79 (ys ++ ⟨(a : Int), ((a + 1 : Nat) : Int), marksS p.f2.length (a + 2)⟩ :: marksP ps (a + 2 + 3 * p.f2.length)) (ys.length : Int) = ⟨(a : Int), ((a + 1 : Nat) : Int), marksS p.f2.length (a + 2)⟩ := by
        rw [rd_pod]; unfold podAtN
        exact getD_mid _ _ _ _ _ rfl
      simp only [laws_heldPodS.l0, er, hw, hw1, wrap_n ys.length (by unfold BIG; omega)]
      refine Ev.ifp (by simp only [List.length_append, List.length_cons]; omega) (Ev.ifp (by omega) (Ev.ifp (by first | rfl | trivial) (Ev.ifp (by first | rfl | trivial) (Ev.bind (heldStackS_f p.f2.length (a + 1 + 1) (by omega)) ?_))))
      refine Ev.ifn (by omega) ?_
      have ih := heldPodS_l0 ps (ys ++ [⟨(a : Int), ((a + 1 : Nat) : Int), marksS p.f2.length (a + 2)⟩]) (a + 2 + 3 * p.f2.length) h (by simp only [List.length_append, List.length_singleton]; omega)
      rw [List.length_append, List.length_singleton, List.append_assoc] at ih
      exact ih)
theorem heldStock_f (l : List S79) (hn : l.length ≤ 4194304) (hx : ∀ x ∈ l, x.f2.length ≤ 4194304) : Ev (fun k => laws_heldStock.f k (marksP l 1) 1) ((endP l 1 : Nat) : Int) := by
  have h := endP_le l 1 hx
  unfold laws_heldStock.f
  exact Ev.bind (heldPodS_l0 l [] 1 (by unfold BIG; omega) (by simp; omega)) (Ev.ifn (by omega) (Ev.now _))

/-! #### ExactStock -/
/-- Bounds of a stock that came in small enough. -/
theorem mkPod_small {l : List S117} (h1 : l.length ≤ 1048576) (h2 : ∀ x ∈ l, x.f2.length ≤ 1048576) : (l.map mkPod).length ≤ 1048576 ∧ ∀ x ∈ l.map mkPod, x.f2.length ≤ 1048576 :=
  ⟨by rw [List.length_map]; exact h1, fun x hx => by
    obtain ⟨y, hy, rfl⟩ := List.mem_map.1 hx
    have := h2 y hy
    simp only [mkPod, List.length_map]; omega⟩
theorem small_big {l : List S79} (h : l.length ≤ 1048576 ∧ ∀ x ∈ l, x.f2.length ≤ 1048576) : l.length ≤ 4194304 ∧ ∀ x ∈ l, x.f2.length ≤ 4194304 := ⟨by omega, fun x hx => by have := h.2 x hx; omega⟩
theorem set_big {l : List S79} (h : l.length ≤ 4194304 ∧ ∀ x ∈ l, x.f2.length ≤ 4194304) (i : Nat) (p : S79) (hp : p.f2.length ≤ 4194304) : (l.set i p).length ≤ 4194304 ∧ ∀ x ∈ l.set i p, x.f2.length ≤ 4194304 :=
  ⟨by simpa using h.1, fun x hx => by
    rcases List.mem_or_eq_of_mem_set hx with hx | rfl
    · exact h.2 x hx
    · exact hp⟩

/-! #### TakeOutP -/
def takenStacks (s : List S72) (sku n : Int) : List S72 := if (stackOf s sku).f1 - n = 0 then s.take (lowIdx s sku) ++ s.drop (lowIdx s sku + 1) else s.set (lowIdx s sku) ⟨sku, (stackOf s sku).f1 - n, (stackOf s sku).f2 - n⟩
def takeOf (l : List S79) (id sku n : Int) : List S79 × Int :=
  if askOk l sku n = true then (if 0 ≤ podIdx l id then
    (if hitAt (rd_T79 l (podIdx l id)).f2 sku = true ∧ n ≤ (stackOf (rd_T79 l (podIdx l id)).f2 sku).f2 then
      (l.set (podIdx l id).toNat ⟨(rd_T79 l (podIdx l id)).f0, (rd_T79 l (podIdx l id)).f1, takenStacks (rd_T79 l (podIdx l id)).f2 sku n⟩, 0)
    else (l, 3)) else (l, 2)) else (l, 1)
theorem takeOf_len (l : List S79) (id sku n : Int) (hn : l.length ≤ 4194304) (hx : ∀ x ∈ l, x.f2.length ≤ 4194304) : (takeOf l id sku n).1.length ≤ 4194304 ∧ ∀ x ∈ (takeOf l id sku n).1, x.f2.length ≤ 4194304 := by
  unfold takeOf
  split
  · split
    · rename_i ha h0
      have f := ask_facts ha h0
      have h8 := f.st8
      split
      · refine set_big ⟨hn, hx⟩ _ _ ?_
        unfold takenStacks
        dsimp only
        split
        · simp only [List.length_append, List.length_take, List.length_drop]; omega
        · simp only [List.length_set]; omega
      · exact ⟨hn, hx⟩
    · exact ⟨hn, hx⟩
  · exact ⟨hn, hx⟩
theorem lowIdx_set (s : List S72) (sku : Int) (j : Nat) (x : S72) (hx : ∀ h : j < s.length, x.f0 = s[j].f0) : lowIdx (s.set j x) sku = lowIdx s sku := by
  induction s generalizing j with
  | nil => simp
  | cons y t ih =>
    cases j with
    | zero =>
      have := hx (by simp)
      simp only [List.getElem_cons_zero] at this
      rw [List.set_cons_zero, lowIdx_cons, lowIdx_cons, this]
    | succ j =>
      rw [List.set_cons_succ, lowIdx_cons, lowIdx_cons, ih j (fun h => by have := hx (by simp; omega); simpa using this)]
theorem podIdx_set (l : List S79) (id : Int) (j : Nat) (x : S79) (hx : ∀ h : j < l.length, x.f0 = l[j].f0) : podIdx (l.set j x) id = podIdx l id := by
  induction l generalizing j with
  | nil => simp
  | cons y t ih =>
    cases j with
    | zero =>
      have := hx (by simp)
      simp only [List.getElem_cons_zero] at this
      rw [List.set_cons_zero, podIdx_cons, podIdx_cons, this]
    | succ j =>
      rw [List.set_cons_succ, podIdx_cons, podIdx_cons, ih j (fun h => by have := hx (by simp; omega); simpa using this)]
theorem rd_pod_get {l : List S79} {i : Int} (h0 : 0 ≤ i) (h1 : i < l.length) : rd_T79 l i = l[i.toNat]'(by omega) := by
  unfold rd_T79; exact getD_at (by omega)
theorem rd_pod_set {l : List S79} {i : Int} (h0 : 0 ≤ i) (h1 : i < l.length) (p : S79) : rd_T79 (l.set i.toNat p) i = p := by
  unfold rd_T79
  rw [getD_at (by rw [List.length_set]; omega), List.getElem_set_self]
theorem impl_TakeOut_f (l : List S79) (id sku n : Int) (hn : l.length ≤ 4194304) (hx : ∀ x ∈ l, x.f2.length ≤ 4194304) : Ev (fun k => impl_TakeOut.f k l id sku n) (takeOf l id sku n) := by
  unfold impl_TakeOut.f
  refine Ev.bind (impl_Release_f l id sku n hn hx) ?_
  unfold heldOf takeOf
  by_cases ha : askOk l sku n = true
  · rw [if_pos ha, if_pos ha]
    by_cases h0 : 0 ≤ podIdx l id
    · have f := ask_facts ha h0
      rw [if_pos h0, if_pos h0]
      have hf := stackOf_bounds f.st sku
      have hh := hit_facts f.st sku
      have hs := hit_stack (sku := sku) (stacks_facts f.st).1
      have hfn := f.n
      have h8 := f.st8
      have hidx := f.idx
      have hg := rd_pod_get h0 f.idx
      generalize hp : rd_T79 l (podIdx l id) = p at *
      by_cases hc : hitAt p.f2 sku = true ∧ n ≤ (stackOf p.f2 sku).f2
      · rw [if_pos (show hitAt p.f2 sku = true ∧ 0 ≤ (stackOf p.f2 sku).f2 + -n ∧ (stackOf p.f2 sku).f2 + -n ≤ (stackOf p.f2 sku).f1 from ⟨hc.1, by omega, by omega⟩), if_pos hc]
        have h1 := hh.1 hc.1
        have h2 := hs.1 hc.1
        have ei : podIdx (l.set (podIdx l id).toNat ⟨p.f0, p.f1, p.f2.set (lowIdx p.f2 sku) ⟨sku, (stackOf p.f2 sku).f1, (stackOf p.f2 sku).f2 + -n⟩⟩) id = podIdx l id := podIdx_set l id _ _ (fun h => by rw [hg])
        have er := rd_pod_set h0 hidx ⟨p.f0, p.f1, p.f2.set (lowIdx p.f2 sku) ⟨sku, (stackOf p.f2 sku).f1, (stackOf p.f2 sku).f2 + -n⟩⟩
        have el : lowIdx (p.f2.set (lowIdx p.f2 sku) ⟨sku, (stackOf p.f2 sku).f1, (stackOf p.f2 sku).f2 + -n⟩) sku = lowIdx p.f2 sku := lowIdx_set _ _ _ _ (fun h => by
          have e9 : stackOf p.f2 sku = p.f2[lowIdx p.f2 sku] := by rw [h2.1]; unfold stackAt; exact getD_at h
          show sku = (p.f2[lowIdx p.f2 sku]).f0
          rw [← e9]; exact h2.2.symm)
        have es : rd_T72 (p.f2.set (lowIdx p.f2 sku) ⟨sku, (stackOf p.f2 sku).f1, (stackOf p.f2 sku).f2 + -n⟩) ((lowIdx p.f2 sku : Nat) : Int) = ⟨sku, (stackOf p.f2 sku).f1, (stackOf p.f2 sku).f2 + -n⟩ := by
          rw [rd_stack]; unfold stackAt
          rw [getD_at (by rw [List.length_set]; exact h1.1), List.getElem_set_self]
        refine Ev.ifp (by first | rfl | trivial) (Ev.bind (impl_podAt_f _ id (by simpa using hn)) ?_)
        rw [ei]
        refine Ev.ifp h0 (Ev.ifp (by simpa using hidx) ?_)
        rw [er]
        refine Ev.bind (impl_stackAt_f _ _ _ sku (by simp only [List.length_set]; omega)) ?_
        rw [el]
        refine Ev.ifp (by omega) (Ev.ifp (by simp only [List.length_set]; omega) (Ev.const ?_))
        unfold impl_TakeOut.g takenStacks
        simp only [er, es, wrap_id (x := (stackOf p.f2 sku).f1 - n) (by omega) (by omega), Int.toNat_natCast, List.length_set, wrap_sc (show lowIdx p.f2 sku < 9223372036854775807 by omega), List.set_set]
        by_cases hz : (stackOf p.f2 sku).f1 - n = 0
        · rw [if_pos hz, if_pos hz, if_pos (by omega), if_pos (by omega), if_pos (by omega)]
          congr 3
          rw [List.nil_append, List.take_set_of_le (Nat.le_refl _), List.drop_set_of_lt (by omega)]
        · rw [if_neg hz, if_neg hz, Int.sub_eq_add_neg]
          rfl
      · rw [if_neg (fun h => hc ⟨h.1, by omega⟩), if_neg hc]
        exact Ev.ifn (by simp) (Ev.now _)
    · rw [if_neg h0, if_neg h0]
      exact Ev.ifn (by simp) (Ev.now _)
  · rw [if_neg ha, if_neg ha]
    exact Ev.ifn (by simp) (Ev.now _)
theorem spec_TakeOut_f (l : List S79) (id sku n : Int) (hn : l.length ≤ 4194304) (hx : ∀ x ∈ l, x.f2.length ≤ 4194304) : Ev (fun k => spec_TakeOut.f k l id sku n) (takeOf l id sku n) := by
  unfold spec_TakeOut.f takeOf
  refine Ev.bind (spec_l5Call_f l id sku n hn hx) ?_
  by_cases ha : askOk l sku n = true
  · rw [if_pos ha, if_pos ha]
    by_cases h0 : 0 ≤ podIdx l id
    · have f := ask_facts ha h0
      rw [if_pos h0, if_pos h0]
      have hf := stackOf_bounds f.st sku
      have hh := hit_facts f.st sku
      have hs := hit_stack (sku := sku) (stacks_facts f.st).1
      have hfn := f.n
      have hst := (stacks_facts f.st).1
      have h8 := f.st8
      refine Ev.ifp (by first | rfl | trivial) ?_
      have hput := spec_l5Put_f l (podIdx l id) ⟨(stackOf (rd_T79 l (podIdx l id)).f2 sku).f0, (stackOf (rd_T79 l (podIdx l id)).f2 sku).f1 - n, (stackOf (rd_T79 l (podIdx l id)).f2 sku).f2 - n⟩ hn hx h0 f.idx
      generalize hp : rd_T79 l (podIdx l id) = p at *
      simp only [wrap_id (x := (stackOf p.f2 sku).f2 - n) (by omega) (by omega), wrap_id (x := (stackOf p.f2 sku).f1 - n) (by omega) (by omega)]
      cases hit : hitAt p.f2 sku
      · have h1 := hh.2 hit
        refine Ev.ifp (by omega) (Ev.bind (spec_l5Copy_f l hn hx) (Ev.fin ?_))
        rw [if_neg (fun h => by cases h.1)]
      · have h2 := hs.1 hit
        by_cases hc : (stackOf p.f2 sku).f2 < n
        · refine Ev.ifp hc (Ev.bind (spec_l5Copy_f l hn hx) (Ev.fin ?_))
          rw [if_neg (fun h => by omega)]
        · refine Ev.ifn hc (Ev.bind hput (Ev.fin ?_))
          rw [if_pos ⟨rfl, by omega⟩]
          have hi := insS_hit ⟨(stackOf p.f2 sku).f0, (stackOf p.f2 sku).f1 - n, (stackOf p.f2 sku).f2 - n⟩ ((stackOf p.f2 sku).f1 - n == 0) hst (by show hitAt p.f2 (stackOf p.f2 sku).f0 = true; rw [h2.2]; exact hit)
          dsimp only at hi
          rw [hi, h2.2]
          unfold takenStacks
          by_cases hz : (stackOf p.f2 sku).f1 - n = 0
          · rw [if_pos hz, if_pos (by simpa using hz)]
          · rw [if_neg hz, if_neg (by simpa using hz)]
    · rw [if_neg h0, if_neg h0]
      refine Ev.ifn (by decide) (Ev.bind (spec_l5Copy_f l hn hx) (Ev.now _))
  · rw [if_neg ha, if_neg ha]
    exact Ev.ifn (by decide) (Ev.bind (spec_l5Copy_f l hn hx) (Ev.now _))

/-! #### EachOf -/
/-! One operation after the other over the picks, or nothing at all. -/
def BigS (l : List S79) : Prop := l.length ≤ 4194304 ∧ ∀ x ∈ l, x.f2.length ≤ 4194304
def eachOf (O : List S79 → Int → Int → Int → List S79 × Int) (s : List S79) : List S50 → List S79 → List S79 × Bool
  | [], out => (out, true)
  | p :: ps, out => if (O out p.f0 p.f1 p.f2).2 = 0 then eachOf O s ps (O out p.f0 p.f1 p.f2).1 else (s, false)
theorem eachOf_big {O : List S79 → Int → Int → Int → List S79 × Int} (hO : ∀ l a b c, BigS l → BigS (O l a b c).1) {s : List S79} (hs : BigS s) : ∀ (ps : List S50) (out : List S79), BigS out → BigS (eachOf O s ps out).1
  | [], out, h => h
  | p :: ps, out, h => by
    unfold eachOf
    split
    · exact eachOf_big hO hs ps _ (hO _ _ _ _ h)
    · exact hs
theorem heldOf_big (l : List S79) (id sku n more : Int) (h : BigS l) : BigS (heldOf l id sku n more).1 := by
  unfold heldOf
  split
  · split
    · rename_i ha h0
      have f := ask_facts ha h0
      split
      · refine ⟨by simp only [List.length_set]; exact h.1, fun x hx => ?_⟩
        rcases List.mem_or_eq_of_mem_set hx with hx | rfl
        · exact h.2 x hx
        · have := f.st8; simp only [List.length_set]; omega
      · exact h
    · exact h
  · exact h
theorem takeOf_big (l : List S79) (id sku n : Int) (h : BigS l) : BigS (takeOf l id sku n).1 := takeOf_len l id sku n h.1 h.2
def opOf (a : Int) : List S79 → Int → Int → Int → List S79 × Int := fun l id sku n => if a = 1 then heldOf l id sku n n else if a = 2 then heldOf l id sku n (-n) else takeOf l id sku n
theorem opOf_big (a : Int) (l : List S79) (id sku n : Int) (h : BigS l) : BigS (opOf a l id sku n).1 := by
  unfold opOf
  split
  · exact heldOf_big l id sku n _ h
  · split
    · exact heldOf_big l id sku n _ h
    · exact takeOf_big l id sku n h
theorem spec_l6Each_l0 (s : List S79) (hs : BigS s) (p : List S50) (hp : p.length ≤ 1048576) (a : Int) : ∀ (d i : Nat) (out : List S79), i + d = p.length → BigS out → Ev (fun k => spec_l6Each.l0 k p a i s out) (eachOf (opOf a) s (p.drop i) out)
  | 0, i, out, e, h => Ev.unroll (by
      simp only [spec_l6Each.l0]
      rw [drop_end (by omega)]
      exact Ev.ifn (by omega) (Ev.now _))
  | d + 1, i, out, e, h => by
      have hi : i < p.length := by omega
      have er : rd_T50 p i = p[i] := rd_struct_at hi
      have ih := spec_l6Each_l0 s hs p hp a d (i + 1) (opOf a out p[i].f0 p[i].f1 p[i].f2).1 (by omega) (opOf_big a out _ _ _ h)
      refine Ev.unroll ?_
      simp only [spec_l6Each.l0, er, wrap_sc (show i < 9223372036854775807 by omega)]
      rw [drop_cons hi, eachOf]
      refine Ev.ifp (by omega) (Ev.ifp (by omega) ?_)
      by_cases h1 : a = 1
      · have e1 : opOf a out p[i].f0 p[i].f1 p[i].f2 = heldOf out p[i].f0 p[i].f1 p[i].f2 p[i].f2 := by unfold opOf; rw [if_pos h1]
        rw [e1] at ih ⊢
        refine Ev.ifp h1 (Ev.bind (spec_Hold_f out _ _ _ h.1 h.2) ?_)
        by_cases h0 : (heldOf out p[i].f0 p[i].f1 p[i].f2 p[i].f2).2 = 0
        · rw [if_pos h0]; exact Ev.ifp h0 ih
        · rw [if_neg h0]; exact Ev.ifn h0 (Ev.bind (spec_l5Copy_f s hs.1 hs.2) (Ev.now _))
      · refine Ev.ifn h1 ?_
        by_cases h2 : a = 2
        · have e1 : opOf a out p[i].f0 p[i].f1 p[i].f2 = heldOf out p[i].f0 p[i].f1 p[i].f2 (-p[i].f2) := by unfold opOf; rw [if_neg h1, if_pos h2]
          rw [e1] at ih ⊢
          refine Ev.ifp h2 (Ev.bind (spec_Release_f out _ _ _ h.1 h.2) ?_)
          by_cases h0 : (heldOf out p[i].f0 p[i].f1 p[i].f2 (-p[i].f2)).2 = 0
          · rw [if_pos h0]; exact Ev.ifp h0 ih
          · rw [if_neg h0]; exact Ev.ifn h0 (Ev.bind (spec_l5Copy_f s hs.1 hs.2) (Ev.now _))
        · have e1 : opOf a out p[i].f0 p[i].f1 p[i].f2 = takeOf out p[i].f0 p[i].f1 p[i].f2 := by unfold opOf; rw [if_neg h1, if_neg h2]
          rw [e1] at ih ⊢
          refine Ev.ifn h2 (Ev.bind (spec_TakeOut_f out _ _ _ h.1 h.2) ?_)
          by_cases h0 : (takeOf out p[i].f0 p[i].f1 p[i].f2).2 = 0
          · rw [if_pos h0]; exact Ev.ifp h0 ih
          · rw [if_neg h0]; exact Ev.ifn h0 (Ev.bind (spec_l5Copy_f s hs.1 hs.2) (Ev.now _))
theorem spec_l6Each_f (s : List S79) (hs : BigS s) (p : List S50) (hp : p.length ≤ 1048576) (a : Int) : Ev (fun k => spec_l6Each.f k s p a) (eachOf (opOf a) s p s) := by
  unfold spec_l6Each.f
  exact Ev.bind (spec_l5Copy_f s hs.1 hs.2) (spec_l6Each_l0 s hs p hp a p.length 0 s (by omega) hs)

/-! #### TakeAllP -/
theorem impl_eachTakeOut_l0 (s : List S79) (hs : BigS s) (p : List S50) (hp : p.length ≤ 1048576) : ∀ (d i : Nat) (out : List S79), i + d = p.length → BigS out → Ev (fun k => impl_eachTakeOut.l0 k s p i out) (eachOf (opOf 3) s (p.drop i) out)
  | 0, i, out, e, h => Ev.unroll (by
      simp only [impl_eachTakeOut.l0]
      rw [drop_end (by omega)]
      exact Ev.ifn (by omega) (Ev.now _))
  | d + 1, i, out, e, h => by
      have hi : i < p.length := by omega
      have er : rd_T50 p i = p[i] := rd_struct_at hi
      have ih := impl_eachTakeOut_l0 s hs p hp d (i + 1) (opOf 3 out p[i].f0 p[i].f1 p[i].f2).1 (by omega) (opOf_big 3 out _ _ _ h)
      refine Ev.unroll ?_
      simp only [impl_eachTakeOut.l0, er, wrap_sc (show i < 9223372036854775807 by omega)]
      rw [drop_cons hi, eachOf]
      have e1 : opOf 3 out p[i].f0 p[i].f1 p[i].f2 = takeOf out p[i].f0 p[i].f1 p[i].f2 := by unfold opOf; rw [if_neg (by decide), if_neg (by decide)]
      rw [e1] at ih ⊢
      refine Ev.ifp (by omega) (Ev.ifp (by omega) (Ev.bind (impl_TakeOut_f out _ _ _ h.1 h.2) ?_))
      by_cases h0 : (takeOf out p[i].f0 p[i].f1 p[i].f2).2 = 0
      · rw [if_pos h0]; exact Ev.ifp h0 ih
      · rw [if_neg h0]; exact Ev.ifn h0 (Ev.bind (impl_copyStock_f s hs.1 hs.2) (Ev.now _))
theorem impl_TakeAll_f (s : List S79) (hs : BigS s) (p : List S50) (hp : p.length ≤ 1048576) : Ev (fun k => impl_TakeAll.f k s p) (eachOf (opOf 3) s p s) := by
  unfold impl_TakeAll.f impl_eachTakeOut.f
  exact Ev.bind (impl_copyStock_f s hs.1 hs.2) (impl_eachTakeOut_l0 s hs p hp p.length 0 s (by omega) hs)
theorem spec_TakeAll_f (s : List S79) (hs : BigS s) (p : List S50) (hp : p.length ≤ 1048576) : Ev (fun k => spec_TakeAll.f k s p) (eachOf (opOf 3) s p s) := by
  unfold spec_TakeAll.f
  exact Ev.bind (spec_l6Each_f s hs p hp 3) (Ev.now _)

/-! #### FnExactTakeAll -/
theorem FnExactTakeAll : ∀ (l0_0 : List (S117)) (l1 : List (S104)), (l0_0.length ≤ 9223372036854775807 ∧ ∀ y0 ∈ l0_0, ((-9223372036854775808 ≤ y0.f0 ∧ y0.f0 ≤ 9223372036854775807) ∧ (-9223372036854775808 ≤ y0.f1 ∧ y0.f1 ≤ 9223372036854775807) ∧ (y0.f2.length ≤ 9223372036854775807 ∧ ∀ y1 ∈ y0.f2, ((-9223372036854775808 ≤ y1.f0 ∧ y1.f0 ≤ 9223372036854775807) ∧ (-9223372036854775808 ≤ y1.f1 ∧ y1.f1 ≤ 9223372036854775807) ∧ (-9223372036854775808 ≤ y1.f2 ∧ y1.f2 ≤ 9223372036854775807))))) → (l1.length ≤ 9223372036854775807 ∧ ∀ y0 ∈ l1, ((-9223372036854775808 ≤ y0.f0 ∧ y0.f0 ≤ 9223372036854775807) ∧ (-9223372036854775808 ≤ y0.f1 ∧ y0.f1 ≤ 9223372036854775807) ∧ (-9223372036854775808 ≤ y0.f2 ∧ y0.f2 ≤ 9223372036854775807))) → ∃ k, laws_FnExactTakeAll.f k l0_0 l1 = some true := by
  intro l l1 hh hh1
  have hl := hh.1
  have hx : ∀ x ∈ l, x.f2.length ≤ 9223372036854775807 := fun x hx => (hh.2 x hx).2.2.1
  refine Ev.rounds ?_
  unfold laws_FnExactTakeAll.f
  obtain ⟨r, hr, hr2⟩ := szStock_n l hl hx
  refine Ev.bind hr ?_
  by_cases h0 : r < 0
  · exact Ev.ifp h0 (Ev.now _)
  · obtain ⟨h1, h2, h3⟩ := hr2 (by omega)
    refine Ev.ifn h0 ?_
    simp only [szPickS_f l1 r hh1.1 (show 0 ≤ r by omega) h3, some_bind]
    by_cases hb : (l1.length : Int) ≤ r
    · simp only [if_pos hb]
      have m := mkPod_small h1 h2
      have b := small_big m
      have hp : (l1.map mkPick).length ≤ 1048576 := by rw [List.length_map]; omega
      have g := eachOf_big (opOf_big 3) b (l1.map mkPick) (l.map mkPod) b
      have he := endP_le (l.map mkPod) 1 b.2
      have hb1 := m.1
      obtain ⟨q, hq, hq1, _⟩ := markPickS_f (l1.map mkPick) (endP (l.map mkPod) 1) hp (by omega)
      have hI := impl_TakeAll_f _ b _ hp
      have hS := spec_TakeAll_f _ b _ hp
      refine Ev.ifn (by omega) (Ev.bind (toStock_f l h1 h2) (Ev.bind (toPickS_f l1 (by omega)) (Ev.bind hS (Ev.bind hI (Ev.bind (eqStock_f _ g.1 g.2) (Ev.bind (eqStock_f _ b.1 b.2) (Ev.bind (eqPickS_f _ (by unfold BIG; omega)) (Ev.bind (markStock_f _ b.1 b.2) (Ev.bind hq (Ev.bind (markStock_f _ g.1 g.2) (Ev.bind (heldStock_f _ g.1 g.2) ?_)))))))))))
      exact Ev.ifp ⟨rfl, rfl, rfl, rfl, by omega, by omega, rfl⟩ (Ev.now _)
    · simp only [if_neg hb]
      exact Ev.ifp (by omega) (Ev.now _)

end Go.Proofs.Yteajnkondkfmgaa.Pure
