/- Proved here: the law FnExactPicks, over numbers and lists: for all arguments it returns true; no condition. -/
import Derived.Test.YteajnkondkfmgaaPFnExactPicksx17
namespace Go.Proofs.Yteajnkondkfmgaa.Pure
open Go.RowKit Go.Proofs.Yteajnkondkfmgaa.PFnExactPicks Go.Proofs.YteajnkondkfmgaaW.PrintWords Go.Proofs.YteajnkondkfmgaaW.PrintLast
set_option linter.unusedVariables false
set_option linter.unusedSimpArgs false

/-! #### base -/
/-! Words of this session: rounds, whole numbers in their bounds, reading by index. -/
theorem Ev.unroll {α : Type} {g : Nat → Option α} {r : α} (h : Ev (fun k => g (k + 1)) r) : Ev g r := Ev.step (fun _ => rfl) h
theorem Ev.const {α : Type} {x : Option α} {r : α} (h : x = some r) : Ev (fun _ => x) r := ⟨0, fun _ _ => h⟩
theorem Ev.fin {α : Type} {r s : α} (h : r = s) : Ev (fun _ => some r) s := by rw [h]; exact Ev.now _
theorem wrap_id {x : Int} (h0 : -9223372036854775808 ≤ x) (h1 : x ≤ 9223372036854775807) : wrap64 x = x := by unfold wrap64; omega
/-- The bound of all lengths here. -/
abbrev BIG : Nat := 4611686018427387904
theorem wrap_succ {i n : Nat} (h : i < n) (hn : n ≤ BIG) : wrap64 ((i : Int) + 1) = ((i + 1 : Nat) : Int) := by unfold wrap64; unfold BIG at hn; omega
theorem wrap_pred {i n : Nat} (h : i < n) (h0 : 0 < i) (hn : n ≤ BIG) : wrap64 ((i : Int) - 1) = ((i - 1 : Nat) : Int) := by unfold wrap64; unfold BIG at hn; omega
theorem rd_nat {xs : List Int} {i : Nat} (h : i < xs.length) : rd xs (i : Int) = xs[i] := by unfold rd; simp [List.getD, h]
theorem getD_nat {α : Type} {xs : List α} {d : α} {i : Nat} (h : i < xs.length) : xs.getD (i : Int).toNat d = xs[i] := by simp [List.getD, h]
theorem getD_zero {α : Type} {xs : List α} {d : α} (h : 0 < xs.length) : xs.getD (0 : Int).toNat d = xs[0] := by simp [List.getD, h]
theorem drop_cons {α : Type} {xs : List α} {i : Nat} (h : i < xs.length) : xs.drop i = xs[i] :: xs.drop (i + 1) := List.drop_eq_getElem_cons h
theorem drop_end {α : Type} {xs : List α} {i : Nat} (h : xs.length ≤ i) : xs.drop i = [] := List.drop_of_length_le h
/-- A list filled from the front, by index. -/
theorem fill_step {α : Type} (ys zs : List α) (x : α) {i : Nat} (hi : i = ys.length) (hz : 0 < zs.length) : (ys ++ zs).set i x = (ys ++ [x]) ++ zs.drop 1 := by
  subst hi
  match zs, hz with
  | z :: zs, _ => simp
theorem set_id {α : Type} (xs : List α) (i : Nat) (h : i < xs.length) : xs.set i xs[i] = xs := by
  apply List.ext_getElem
  · simp
  · intro j h1 h2
    rw [List.getElem_set]
    split
    · rename_i e; subst e; rfl
    · rfl
theorem some_bind {α β : Type} (a : α) (f : α → Option β) : (some a).bind f = f a := rfl
theorem getD_at {α : Type} {xs : List α} {d : α} {i : Nat} (h : i < xs.length) : xs.getD i d = xs[i] := by simp [List.getD, h]
/-- All places from i on, below n. -/
def allFrom (n i : Nat) (p : Nat → Bool) : Bool := (List.range' i (n - i)).all p
theorem allFrom_end {n i : Nat} {p : Nat → Bool} (h : n ≤ i) : allFrom n i p = true := by
  unfold allFrom
  rw [show n - i = 0 by omega]; rfl
theorem allFrom_step {n i : Nat} {p : Nat → Bool} (h : i < n) : allFrom n i p = (p i && allFrom n (i + 1) p) := by
  unfold allFrom
  rw [show n - i = (n - (i + 1)) + 1 by omega, List.range'_succ, List.all_cons]
theorem allFrom_no {n i : Nat} {p : Nat → Bool} (h : i < n) (hp : p i = false) : allFrom n i p = false := by rw [allFrom_step h, hp, Bool.false_and]
theorem allFrom_yes {n i : Nat} {p : Nat → Bool} (h : i < n) (hp : p i = true) : allFrom n i p = allFrom n (i + 1) p := by rw [allFrom_step h, hp, Bool.true_and]
theorem allFrom_iff {n i : Nat} {p : Nat → Bool} : allFrom n i p = true ↔ ∀ j, i ≤ j → j < n → p j = true := by
  unfold allFrom
  rw [List.all_eq_true]
  constructor
  · intro h j h1 h2
    exact h j (by rw [List.mem_range'_1]; omega)
  · intro h j hj
    rw [List.mem_range'_1] at hj
    exact h j hj.1 (by omega)
theorem itd_pos {α : Type} {p : Prop} [Decidable p] (h : p) {a b : α} : (if decide p = true then a else b) = a := if_pos (decide_eq_true h)
theorem itd_neg {α : Type} {p : Prop} [Decidable p] (h : ¬ p) {a b : α} : (if decide p = true then a else b) = b := if_neg (by rw [decide_eq_false h]; decide)
/-- The places from i on, below n, that p holds of. -/
def filtFrom (n i : Nat) (p : Nat → Bool) : List Int := ((List.range' i (n - i)).filter p).map (fun j : Nat => (j : Int))
theorem filtFrom_end {n i : Nat} {p : Nat → Bool} (h : n ≤ i) : filtFrom n i p = [] := by
  unfold filtFrom
  rw [show n - i = 0 by omega]; rfl
theorem filtFrom_yes {n i : Nat} {p : Nat → Bool} (h : i < n) (hp : p i = true) : filtFrom n i p = (i : Int) :: filtFrom n (i + 1) p := by
  unfold filtFrom
  rw [show n - i = (n - (i + 1)) + 1 by omega, List.range'_succ, List.filter_cons, if_pos hp, List.map_cons]
theorem filtFrom_no {n i : Nat} {p : Nat → Bool} (h : i < n) (hp : p i = false) : filtFrom n i p = filtFrom n (i + 1) p := by
  unfold filtFrom
  rw [show n - i = (n - (i + 1)) + 1 by omega, List.range'_succ, List.filter_cons, if_neg (by rw [hp]; decide)]
theorem filtFrom_le {n i : Nat} {p : Nat → Bool} : (filtFrom n i p).length ≤ n - i := by
  unfold filtFrom
  rw [List.length_map]
  exact Nat.le_trans (List.length_filter_le _ _) (by simp)
theorem mem_filtFrom {n i : Nat} {p : Nat → Bool} {x : Int} : x ∈ filtFrom n i p ↔ ∃ j : Nat, i ≤ j ∧ j < n ∧ p j = true ∧ x = (j : Int) := by
  unfold filtFrom
  simp only [List.mem_map, List.mem_filter, List.mem_range'_1]
  constructor
  · rintro ⟨j, ⟨⟨h1, h2⟩, h3⟩, rfl⟩; exact ⟨j, h1, by omega, h3, rfl⟩
  · rintro ⟨j, h1, h2, h3, rfl⟩; exact ⟨j, ⟨⟨h1, by omega⟩, h3⟩, rfl⟩
theorem wrap_sc {i : Nat} (h : i < 9223372036854775807) : wrap64 ((i : Int) + 1) = ((i + 1 : Nat) : Int) := by unfold wrap64; omega
theorem rd_nat' {xs : List Int} {i : Nat} : rd xs (i : Int) = xs.getD i 0 := by unfold rd; rw [Int.toNat_natCast]
theorem getD_zero' {α : Type} {xs : List α} {d : α} : xs.getD (0 : Int).toNat d = xs.getD 0 d := rfl
theorem Bool.ite_tf (b : Bool) : (if b = true then true else false) = b := by cases b <;> rfl
theorem ev_ite {α : Type} {c : Prop} [Decidable c] {g h : Nat → Option α} {r s : α} (h1 : c → Ev g r) (h2 : ¬ c → Ev h s) : Ev (fun k => if c then g k else h k) (if c then r else s) := by
  by_cases hc : c
  · simp only [if_pos hc]; exact h1 hc
  · simp only [if_neg hc]; exact h2 hc
theorem Ev.ifp {α : Type} {c : Prop} [Decidable c] {g h : Nat → Option α} {r : α} (hc : c) (e : Ev g r) : Ev (fun k => if c then g k else h k) r := by simp only [if_pos hc]; exact e
theorem Ev.ifn {α : Type} {c : Prop} [Decidable c] {g h : Nat → Option α} {r : α} (hc : ¬ c) (e : Ev h r) : Ev (fun k => if c then g k else h k) r := by simp only [if_neg hc]; exact e
theorem ev_ite' {α : Type} {c : Prop} [Decidable c] {g h : Nat → Option α} {r : α} (h1 : c → Ev g r) (h2 : ¬ c → Ev h r) : Ev (fun k => if c then g k else h k) r := by
  by_cases hc : c
  · simp only [if_pos hc]; exact h1 hc
  · simp only [if_neg hc]; exact h2 hc

/-! #### StockArg -/
/-! Stocks as arguments: their size, their copies, whether they are alike. -/
theorem rd_struct_at {α : Type} {xs : List α} {d : α} {i : Nat} (h : i < xs.length) : xs.getD (i : Int).toNat d = xs[i] := by rw [Int.toNat_natCast]; exact getD_at h
def mkStack (a : S131) : S72 := ⟨a.f0, a.f1, a.f2⟩
def mkPod (a : S117) : S79 := ⟨a.f0, a.f1, a.f2.map mkStack⟩
theorem szStackS_f (l : List S131) (b : Int) (h : l.length ≤ 9223372036854775807) (h0 : 0 ≤ b) (h1 : b ≤ 1048576) : laws_szStackS.f l b = some (if (l.length : Int) ≤ b then b - (l.length : Int) else -1) := by
  unfold laws_szStackS.f
  rw [wrap_id (by omega) (by omega)]
  split <;> split <;> first | rfl | omega
theorem szPod_f (x y : Int) (l : List S131) (b : Int) (h : l.length ≤ 9223372036854775807) (h0 : 0 ≤ b) (h1 : b ≤ 1048576) : laws_szPod.f x y l b = some (if (l.length : Int) ≤ b then b - (l.length : Int) else -1) := by
  unfold laws_szPod.f
  rw [szStackS_f l b h h0 h1, some_bind]
  split <;> split <;> first | rfl | omega
theorem szPodS_l0 (xs : List S117) (hn : xs.length ≤ 1048576) (hx : ∀ x ∈ xs, x.f2.length ≤ 9223372036854775807) : ∀ (d i : Nat) (b : Int), i + d = xs.length → 0 ≤ b → b ≤ 1048576 →
    ∃ r : Int, Ev (fun k => laws_szPodS.l0 k xs b i) r ∧ (0 ≤ r → ∀ x ∈ xs.drop i, x.f2.length ≤ 1048576)
  | 0, i, b, h, h0, h1 => ⟨b, Ev.unroll (by
      simp only [laws_szPodS.l0]
      exact Ev.ifn (by omega) (Ev.now _)), fun _ x hx => by rw [drop_end (by omega)] at hx; cases hx⟩
  | d + 1, i, b, h, h0, h1 => by
      have hi : i < xs.length := by omega
      have er : rd_T117 xs i = xs[i] := rd_struct_at hi
      have hl := hx xs[i] (List.getElem_mem hi)
      have e := szPod_f xs[i].f0 xs[i].f1 xs[i].f2 b hl h0 h1
      by_cases hb : (xs[i].f2.length : Int) ≤ b
      · obtain ⟨r, hr, hr2⟩ := szPodS_l0 xs hn hx d (i + 1) (b - xs[i].f2.length) (by omega) (by omega) (by omega)
        refine ⟨r, Ev.unroll ?_, fun h4 x hx => ?_⟩
        · rw [if_pos hb] at e
          simp only [laws_szPodS.l0, er, e, some_bind]
          refine Ev.ifp (by omega) (Ev.ifp (by omega) (Ev.ifn (by omega) ?_))
          rw [wrap_sc (i := i) (by omega)]
          exact hr
        · rw [drop_cons hi] at hx
          rcases List.mem_cons.1 hx with rfl | hx
          · omega
          · exact hr2 h4 x hx
      · refine ⟨-1, Ev.unroll ?_, fun h4 => by omega⟩
        rw [if_neg hb] at e
        simp only [laws_szPodS.l0, er, e, some_bind]
        exact Ev.ifp (by omega) (Ev.ifp (by omega) (Ev.ifp (by omega) (Ev.now _)))
theorem szStock_f (xs : List S117) (hn : xs.length ≤ 9223372036854775807) (hx : ∀ x ∈ xs, x.f2.length ≤ 9223372036854775807) :
    ∃ r : Int, Ev (fun k => laws_szStock.f k xs 1048576) r ∧ (0 ≤ r → xs.length ≤ 1048576 ∧ ∀ x ∈ xs, x.f2.length ≤ 1048576) := by
  unfold laws_szStock.f
  have key : ∃ r : Int, Ev (fun k => laws_szPodS.f k xs 1048576) r ∧ (0 ≤ r → xs.length ≤ 1048576 ∧ ∀ x ∈ xs, x.f2.length ≤ 1048576) := by
    unfold laws_szPodS.f
    by_cases hb : xs.length ≤ 1048576
    · obtain ⟨r, hr, hr2⟩ := szPodS_l0 xs hb hx xs.length 0 (1048576 - xs.length) (by omega) (by omega) (by omega)
      refine ⟨r, ?_, fun h4 => ⟨hb, fun x hx' => hr2 h4 x hx'⟩⟩
      rw [wrap_id (by omega) (by omega)]
      exact Ev.ifn (by omega) hr
    · refine ⟨-1, ?_, fun h4 => by omega⟩
      rw [wrap_id (by omega) (by omega)]
      exact Ev.ifp (by omega) (Ev.now _)
  obtain ⟨r, hr, hr2⟩ := key
  by_cases h0 : r < 0
  · exact ⟨-1, Ev.bind hr (Ev.ifp h0 (Ev.now _)), fun h => by omega⟩
  · exact ⟨r, Ev.bind hr (Ev.ifn h0 (Ev.now _)), hr2⟩
theorem toStackS_l0 (xs : List S131) (hn : xs.length ≤ 1048576) : ∀ (d i : Nat) (ys zs : List S72), i + d = xs.length → ys.length = i → zs.length = d → ys = (xs.take i).map mkStack → Ev (fun k => laws_toStackS.l0 k xs (ys ++ zs) i) (xs.map mkStack)
  | 0, i, ys, zs, h, hy, hz, e => Ev.unroll (by
      obtain rfl := List.length_eq_zero_iff.1 hz
      simp only [laws_toStackS.l0]
      exact Ev.ifn (by omega) (Ev.fin (by rw [e, List.take_of_length_le (by omega), List.append_nil])))
  | d + 1, i, ys, zs, h, hy, hz, e => Ev.unroll (by
      have hi : i < xs.length := by omega
      have hl : (ys ++ zs).length = xs.length := by simp; omega
      have er : rd_T131 xs i = xs[i] := rd_struct_at hi
      simp only [laws_toStackS.l0, laws_toStack.f, some_bind, er, hl]
      refine Ev.ifp (by omega) (Ev.ifp (by omega) (Ev.ifp (by omega) ?_))
      rw [wrap_sc (i := i) (by omega), Int.toNat_natCast, fill_step ys zs _ hy.symm (by omega)]
      exact toStackS_l0 xs hn d (i + 1) _ _ (by omega) (by simp; omega) (by simp; omega) (by rw [List.take_succ_eq_append_getElem hi, List.map_append, ← e]; rfl))
theorem toStackS_f (l : List S131) (h : l.length ≤ 1048576) : Ev (fun k => laws_toStackS.f k l) (l.map mkStack) := by
  unfold laws_toStackS.f
  rw [Int.toNat_natCast]
  exact Ev.ifp (by omega) (Ev.ifp (by omega) (toStackS_l0 l h l.length 0 [] _ (by omega) rfl (by simp) rfl))
theorem toPodS_l0 (xs : List S117) (hn : xs.length ≤ 1048576) (hx : ∀ x ∈ xs, x.f2.length ≤ 1048576) : ∀ (d i : Nat) (ys zs : List S79), i + d = xs.length → ys.length = i → zs.length = d → ys = (xs.take i).map mkPod → Ev (fun k => laws_toPodS.l0 k xs (ys ++ zs) i) (xs.map mkPod)
  | 0, i, ys, zs, h, hy, hz, e => Ev.unroll (by
      obtain rfl := List.length_eq_zero_iff.1 hz
      simp only [laws_toPodS.l0]
      exact Ev.ifn (by omega) (Ev.fin (by rw [e, List.take_of_length_le (by omega), List.append_nil])))
  | d + 1, i, ys, zs, h, hy, hz, e => Ev.unroll (by
      have hi : i < xs.length := by omega
      have hl : (ys ++ zs).length = xs.length := by simp; omega
      have er : rd_T117 xs i = xs[i] := rd_struct_at hi
      have ep : Ev (fun k => laws_toPod.f k xs[i].f0 xs[i].f1 xs[i].f2) (xs[i].f0, xs[i].f1, xs[i].f2.map mkStack) := by
        unfold laws_toPod.f
        exact Ev.bind (toStackS_f _ (hx _ (List.getElem_mem hi))) (Ev.now _)
      simp only [laws_toPodS.l0, er, hl]
      refine Ev.ifp (by omega) (Ev.ifp (by omega) (Ev.bind ep (Ev.ifp (by omega) ?_)))
      rw [wrap_sc (i := i) (by omega), Int.toNat_natCast, fill_step ys zs _ hy.symm (by omega)]
      exact toPodS_l0 xs hn hx d (i + 1) _ _ (by omega) (by simp; omega) (by simp; omega) (by rw [List.take_succ_eq_append_getElem hi, List.map_append, ← e]; rfl))
theorem toStock_f (l : List S117) (h : l.length ≤ 1048576) (hx : ∀ x ∈ l, x.f2.length ≤ 1048576) : Ev (fun k => laws_toStock.f k l) (l.map mkPod) := by
  unfold laws_toStock.f laws_toPodS.f
  rw [Int.toNat_natCast]
  refine Ev.bind (g := fun k => if 0 ≤ (l.length : Int) then (if l.length ≤ 7036874417766 then (laws_toPodS.l0 k l (List.replicate l.length z79) 0) else (none)) else (none)) (a := l.map mkPod) ?_ (Ev.now _)
  exact Ev.ifp (by omega) (Ev.ifp (by omega) (toPodS_l0 l h hx l.length 0 [] _ (by omega) rfl (by simp) rfl))
theorem eqStack_f (r : S72) : laws_eqStack.f r.f0 r.f1 r.f2 r.f0 r.f1 r.f2 = some true := by
  unfold laws_eqStack.f; simp
theorem eqStackS_l0 (xs : List S72) (hn : xs.length ≤ 4194304) : ∀ (d i : Nat), i + d = xs.length → Ev (fun k => laws_eqStackS.l0 k xs xs i) true
  | 0, i, h => Ev.unroll (by
      simp only [laws_eqStackS.l0]
      exact Ev.ifn (by omega) (Ev.now _))
  | d + 1, i, h => Ev.unroll (by
      simp only [laws_eqStackS.l0, eqStack_f, some_bind, wrap_sc (show i < 9223372036854775807 by omega)]
      exact Ev.ifp (by omega) (Ev.ifp (by omega) (Ev.ifp (by omega) (Ev.ifp trivial (eqStackS_l0 xs hn d (i + 1) (by omega))))))
theorem eqPod_f (x y : Int) (l : List S72) (h : l.length ≤ 4194304) : Ev (fun k => laws_eqPod.f k x y l x y l) true := by
  have : Ev (fun k => laws_eqStackS.f k l l) true := by
    unfold laws_eqStackS.f
    exact Ev.ifp rfl (eqStackS_l0 l h l.length 0 (by omega))
  unfold laws_eqPod.f
  exact Ev.ifp rfl (Ev.ifp rfl (Ev.bind this (Ev.ifp rfl (Ev.now _))))
theorem eqPodS_l0 (xs : List S79) (hn : xs.length ≤ 4194304) (hx : ∀ x ∈ xs, x.f2.length ≤ 4194304) : ∀ (d i : Nat), i + d = xs.length → Ev (fun k => laws_eqPodS.l0 k xs xs i) true
  | 0, i, h => Ev.unroll (by
      simp only [laws_eqPodS.l0]
      exact Ev.ifn (by omega) (Ev.now _))
  | d + 1, i, h => Ev.unroll (by
      have hi : i < xs.length := by omega
      have er : rd_T79 xs i = xs[i] := rd_struct_at hi
      simp only [laws_eqPodS.l0, er, wrap_sc (show i < 9223372036854775807 by omega)]
      exact Ev.ifp (by omega) (Ev.ifp (by omega) (Ev.ifp (by omega) (Ev.bind (eqPod_f _ _ _ (hx _ (List.getElem_mem hi))) (Ev.ifp rfl (eqPodS_l0 xs hn hx d (i + 1) (by omega)))))))
theorem eqStock_f (l : List S79) (h : l.length ≤ 4194304) (hx : ∀ x ∈ l, x.f2.length ≤ 4194304) : Ev (fun k => laws_eqStock.f k l l) true := by
  have : Ev (fun k => laws_eqPodS.f k l l) true := by
    unfold laws_eqPodS.f
    exact Ev.ifp rfl (eqPodS_l0 l h hx l.length 0 (by omega))
  unfold laws_eqStock.f
  exact Ev.bind this (Ev.ifp rfl (Ev.now _))

/-! #### StockArgN -/
theorem szPodS_n (xs : List S117) (hn : xs.length ≤ 1048576) (hx : ∀ x ∈ xs, x.f2.length ≤ 9223372036854775807) : ∀ (d i : Nat) (b : Int), i + d = xs.length → 0 ≤ b → b ≤ 1048576 →
    ∃ r : Int, Ev (fun k => laws_szPodS.l0 k xs b i) r ∧ (0 ≤ r → (∀ x ∈ xs.drop i, x.f2.length ≤ 1048576) ∧ r ≤ b)
  | 0, i, b, h, h0, h1 => ⟨b, Ev.unroll (by
      simp only [laws_szPodS.l0]
      exact Ev.ifn (by omega) (Ev.now _)), fun _ => ⟨fun x hx => (by rw [drop_end (by omega)] at hx; cases hx), by omega⟩⟩
  | d + 1, i, b, h, h0, h1 => by
      have hi : i < xs.length := by omega
      have er : rd_T117 xs i = xs[i] := rd_struct_at hi
      have hl := hx xs[i] (List.getElem_mem hi)
      have e := szPod_f xs[i].f0 xs[i].f1 xs[i].f2 b hl h0 h1
      by_cases hb : (xs[i].f2.length : Int) ≤ b
      · obtain ⟨r, hr, hr2⟩ := szPodS_n xs hn hx d (i + 1) (b - xs[i].f2.length) (by omega) (by omega) (by omega)
        refine ⟨r, Ev.unroll ?_, fun h4 => ⟨fun x hx => ?_, by have := (hr2 h4).2; omega⟩⟩
        · rw [if_pos hb] at e
          simp only [laws_szPodS.l0, er, e, some_bind]
          refine Ev.ifp (by omega) (Ev.ifp (by omega) (Ev.ifn (by omega) ?_))
          rw [wrap_sc (i := i) (by omega)]
          exact hr
        · rw [drop_cons hi] at hx
          rcases List.mem_cons.1 hx with rfl | hx
          · omega
          · exact (hr2 h4).1 x hx
      · refine ⟨-1, Ev.unroll ?_, fun h4 => by omega⟩
        rw [if_neg hb] at e
        simp only [laws_szPodS.l0, er, e, some_bind]
        exact Ev.ifp (by omega) (Ev.ifp (by omega) (Ev.ifp (by omega) (Ev.now _)))
theorem szStock_n (xs : List S117) (hn : xs.length ≤ 9223372036854775807) (hx : ∀ x ∈ xs, x.f2.length ≤ 9223372036854775807) :
    ∃ r : Int, Ev (fun k => laws_szStock.f k xs 1048576) r ∧ (0 ≤ r → xs.length ≤ 1048576 ∧ (∀ x ∈ xs, x.f2.length ≤ 1048576) ∧ r ≤ 1048576) := by
  unfold laws_szStock.f
  have key : ∃ r : Int, Ev (fun k => laws_szPodS.f k xs 1048576) r ∧ (0 ≤ r → xs.length ≤ 1048576 ∧ (∀ x ∈ xs, x.f2.length ≤ 1048576) ∧ r ≤ 1048576) := by
    unfold laws_szPodS.f
    by_cases hb : xs.length ≤ 1048576
    · obtain ⟨r, hr, hr2⟩ := szPodS_n xs hb hx xs.length 0 (1048576 - xs.length) (by omega) (by omega) (by omega)
      refine ⟨r, ?_, fun h4 => ⟨hb, fun x hx' => (hr2 h4).1 x hx', by have := (hr2 h4).2; omega⟩⟩
      rw [wrap_id (by omega) (by omega)]
      exact Ev.ifn (by omega) hr
    · refine ⟨-1, ?_, fun h4 => by omega⟩
      rw [wrap_id (by omega) (by omega)]
      exact Ev.ifp (by omega) (Ev.now _)
  obtain ⟨r, hr, hr2⟩ := key
  by_cases h0 : r < 0
  · exact ⟨-1, Ev.bind hr (Ev.ifp h0 (Ev.now _)), fun h => by omega⟩
  · exact ⟨r, Ev.bind hr (Ev.ifn h0 (Ev.now _)), hr2⟩

/-! #### PicksEq -/
theorem eqPick_f (r : S50) : laws_eqPick.f r.f0 r.f1 r.f2 r.f0 r.f1 r.f2 = some true := by
  unfold laws_eqPick.f
  simp
theorem eqPickS_l0 (xs : List S50) (hn : xs.length ≤ BIG) : ∀ (d i : Nat), i + d = xs.length → Ev (fun k => laws_eqPickS.l0 k xs xs i) true
  | 0, i, h => Ev.unroll (by
      simp only [laws_eqPickS.l0]
      simp only [if_neg (show ¬ (i : Int) < xs.length by omega)]
      exact Ev.now _)
  | d + 1, i, h => Ev.unroll (by
      have hi : i < xs.length := by omega
      simp only [laws_eqPickS.l0, eqPick_f, some_bind]
      simp only [if_pos (show (i : Int) < xs.length by omega), if_pos (show (0 : Int) ≤ i by omega), wrap_succ hi hn, if_true]
      exact eqPickS_l0 xs hn d (i + 1) (by omega))
theorem eqPickS_f (l : List S50) (h : l.length ≤ BIG) : Ev (fun k => laws_eqPickS.f k l l) true := by
  unfold laws_eqPickS.f
  simp only [if_true]
  exact eqPickS_l0 l h l.length 0 (by omega)

/-! #### In -/
/-- Between two bounds. -/
def inB (a b c : Int) : Bool := decide (b ≤ a ∧ a ≤ c)
theorem inB_iff {a b c : Int} : inB a b c = true ↔ b ≤ a ∧ a ≤ c := by unfold inB; exact decide_eq_true_iff
theorem inB_no {a b c : Int} : inB a b c = false ↔ ¬ (b ≤ a ∧ a ≤ c) := by rw [← inB_iff]; simp
theorem impl_in_f (a b c : Int) : impl_in.f a b c = some (inB a b c) := by
  unfold impl_in.f inB
  by_cases h : b ≤ a <;> by_cases h2 : a ≤ c <;> simp [h, h2]
theorem spec_l1In_f (a b c : Int) : spec_l1In.f a b c = some (inB a b c) := by
  unfold spec_l1In.f inB
  by_cases h : b ≤ a <;> by_cases h2 : a ≤ c <;> simp [h, h2]

/-! #### StockOk -/
/-! A stock that is right. -/
def stackAt (l : List S72) (j : Nat) : S72 := l.getD j z72
def podAtN (l : List S79) (j : Nat) : S79 := l.getD j z79
def stackOk (l : List S72) (j : Nat) : Bool := inB (stackAt l j).f0 1 50 && (inB (stackAt l j).f1 1 1000 && (inB (stackAt l j).f2 0 (stackAt l j).f1 && (decide (j = 0) || decide ((stackAt l (j - 1)).f0 < (stackAt l j).f0))))
def stacksOk (l : List S72) : Bool := allFrom l.length 0 (stackOk l)
def podOk (p : S79) : Bool := inB p.f0 1 999 && (inB p.f1 0 99 && (decide (p.f2.length ≤ 8) && stacksOk p.f2))
def homesOk (l : List S79) (i : Nat) : Nat → Bool := fun k => !decide ((podAtN l k).f1 = (podAtN l i).f1)
def podAtOk (l : List S79) (i : Nat) : Bool := podOk (podAtN l i) && ((decide (i = 0) || decide ((podAtN l (i - 1)).f0 < (podAtN l i).f0)) && allFrom i 0 (homesOk l i))
def stockOk (l : List S79) : Bool := decide (l.length ≤ 12) && allFrom l.length 0 (podAtOk l)
theorem rd_stack {l : List S72} {i : Nat} : rd_T72 l (i : Int) = stackAt l i := by unfold rd_T72 stackAt; rw [Int.toNat_natCast]
theorem rd_pod {l : List S79} {i : Nat} : rd_T79 l (i : Int) = podAtN l i := by unfold rd_T79 podAtN; rw [Int.toNat_natCast]
theorem wrap_pd {i : Nat} (h : i < 9223372036854775807) (h0 : 0 < i) : wrap64 ((i : Int) - 1) = ((i - 1 : Nat) : Int) := by unfold wrap64; omega
theorem spec_l5Stacks_l0 (l : List S72) (hn : l.length ≤ 4194304) : ∀ (d i : Nat), i + d = l.length → Ev (fun k => spec_l5Stacks.l0 k l i) (decide (l.length ≤ 8) && allFrom l.length i (stackOk l))
  | 0, i, h => Ev.unroll (by
      simp only [spec_l5Stacks.l0]
      refine Ev.ifn (by omega) (Ev.fin ?_)
      rw [allFrom_end (by omega), Bool.and_true, Bool.eq_iff_iff, decide_eq_true_eq, decide_eq_true_eq]; omega)
  | d + 1, i, h => Ev.unroll (by
      have hi : i < l.length := by omega
      have ih := spec_l5Stacks_l0 l hn d (i + 1) (by omega)
      simp only [spec_l5Stacks.l0, spec_l1In_f, some_bind, rd_stack, wrap_sc (show i < 9223372036854775807 by omega)]
      rw [allFrom_step hi]
      refine Ev.ifp (by omega) (Ev.ifp (by omega) ?_)
      have no : ∀ b : Bool, stackOk l i = false → Ev (fun _ : Nat => some false) (decide (l.length ≤ 8) && (stackOk l i && allFrom l.length (i + 1) (stackOk l))) := fun _ e => Ev.fin (by rw [e]; simp)
      refine ev_ite' (fun h1 => ev_ite' (fun h2 => ev_ite' (fun h3 => ?_) (fun h3 => no true ?_)) (fun h2 => no true ?_)) (fun h1 => no true ?_)
      · by_cases h0 : 0 < i
        · rw [wrap_pd (by omega) h0]
          simp only [rd_stack]
          refine Ev.ifp (by omega) (Ev.ifp (by omega) (Ev.ifp (by omega) ?_))
          refine ev_ite' (fun h4 => no true ?_) (fun h4 => ?_)
          · unfold stackOk; rw [h1, h2, h3, decide_eq_false (by omega), decide_eq_false (by omega)]; rfl
          · rw [show stackOk l i = true by unfold stackOk; rw [h1, h2, h3, decide_eq_true (show (stackAt l (i - 1)).f0 < (stackAt l i).f0 by omega), Bool.or_true]; rfl, Bool.true_and]
            exact ih
        · refine Ev.ifn (by omega) ?_
          rw [show stackOk l i = true by unfold stackOk; rw [h1, h2, h3, decide_eq_true (show i = 0 by omega), Bool.true_or]; rfl, Bool.true_and]
          exact ih
      · unfold stackOk; rw [Bool.not_eq_true] at h3; rw [h3]; simp
      · unfold stackOk; rw [Bool.not_eq_true] at h2; rw [h2]; simp
      · unfold stackOk; rw [Bool.not_eq_true] at h1; rw [h1]; simp)
theorem impl_podOk_l0 (x y : Int) (l : List S72) (hn : l.length ≤ 4194304) : ∀ (d i : Nat), i + d = l.length → Ev (fun k => impl_podOk.l0 k l l.length i x y l) (allFrom l.length i (stackOk l))
  | 0, i, h => Ev.unroll (by
      simp only [impl_podOk.l0]
      exact Ev.ifn (by omega) (Ev.fin (allFrom_end (by omega)).symm))
  | d + 1, i, h => Ev.unroll (by
      have hi : i < l.length := by omega
      have ih := impl_podOk_l0 x y l hn d (i + 1) (by omega)
      simp only [impl_podOk.l0, impl_in_f, some_bind, rd_stack, wrap_sc (show i < 9223372036854775807 by omega)]
      rw [allFrom_step hi]
      refine Ev.ifp (by omega) (Ev.ifp (by omega) (Ev.ifp (by omega) ?_))
      have no : ∀ b : Bool, stackOk l i = false → Ev (fun _ : Nat => some false) (stackOk l i && allFrom l.length (i + 1) (stackOk l)) := fun _ e => Ev.fin (by rw [e]; simp)
      refine ev_ite' (fun h1 => ev_ite' (fun h2 => ev_ite' (fun h3 => ?_) (fun h3 => no true ?_)) (fun h2 => no true ?_)) (fun h1 => no true ?_)
      · by_cases h0 : 0 < i
        · rw [wrap_pd (by omega) h0]
          simp only [rd_stack]
          refine Ev.ifp (by omega) (Ev.ifp (by omega) (Ev.ifp (by omega) ?_))
          refine ev_ite' (fun h4 => no true ?_) (fun h4 => ?_)
          · unfold stackOk; rw [h1, h2, h3, decide_eq_false (by omega), decide_eq_false (by omega)]; rfl
          · rw [show stackOk l i = true by unfold stackOk; rw [h1, h2, h3, decide_eq_true (show (stackAt l (i - 1)).f0 < (stackAt l i).f0 by omega), Bool.or_true]; rfl, Bool.true_and]
            exact ih
        · refine Ev.ifn (by omega) ?_
          rw [show stackOk l i = true by unfold stackOk; rw [h1, h2, h3, decide_eq_true (show i = 0 by omega), Bool.true_or]; rfl, Bool.true_and]
          exact ih
      · unfold stackOk; rw [Bool.not_eq_true] at h3; rw [h3]; simp
      · unfold stackOk; rw [Bool.not_eq_true] at h2; rw [h2]; simp
      · unfold stackOk; rw [Bool.not_eq_true] at h1; rw [h1]; simp)
theorem impl_podOk_f (p : S79) (hn : p.f2.length ≤ 4194304) : Ev (fun k => impl_podOk.f k p.f0 p.f1 p.f2) (podOk p) := by
  unfold impl_podOk.f
  simp only [impl_in_f, some_bind]
  have no : podOk p = false → Ev (fun k => impl_podOk.j0 k true p.f0 p.f1 p.f2) (podOk p) := fun e => Ev.unroll (by
    simp only [impl_podOk.j0]
    exact Ev.ifp trivial (Ev.fin e.symm))
  refine ev_ite' (fun h1 => ev_ite' (fun h2 => ?_) (fun h2 => no ?_)) (fun h1 => no ?_)
  · by_cases h3 : p.f2.length ≤ 8
    · rw [decide_eq_false (by omega)]
      refine Ev.unroll ?_
      simp only [impl_podOk.j0]
      rw [show podOk p = stacksOk p.f2 by unfold podOk; rw [h1, h2, decide_eq_true h3]; rfl]
      exact Ev.ifn (by simp) (impl_podOk_l0 _ _ p.f2 hn p.f2.length 0 (by omega))
    · rw [decide_eq_true (by omega)]
      exact no (by unfold podOk; rw [decide_eq_false h3]; simp)
  · unfold podOk; rw [Bool.not_eq_true] at h2; rw [h2]; simp
  · unfold podOk; rw [Bool.not_eq_true] at h1; rw [h1]; simp
theorem spec_StockOk_l1 (l : List S79) (i : Nat) (hn : l.length ≤ 4194304) (hi : i < l.length) (R : Bool) (hR : Ev (fun k => spec_StockOk.l0 k ((i + 1 : Nat) : Int) l) R) : ∀ (d j : Nat), j + d = i → Ev (fun k => spec_StockOk.l1 k i j l (podAtN l i).f0 (podAtN l i).f1 (podAtN l i).f2) (allFrom i j (homesOk l i) && R)
  | 0, j, h => Ev.unroll (by
      simp only [spec_StockOk.l1, wrap_sc (show i < 9223372036854775807 by omega)]
      rw [allFrom_end (by omega), Bool.true_and]
      exact Ev.ifn (by omega) hR)
  | d + 1, j, h => Ev.unroll (by
      have ih := spec_StockOk_l1 l i hn hi R hR d (j + 1) (by omega)
      simp only [spec_StockOk.l1, rd_pod, wrap_sc (show j < 9223372036854775807 by omega)]
      rw [allFrom_step (by omega)]
      refine Ev.ifp (by omega) (Ev.ifp (by omega) (Ev.ifp (by omega) ?_))
      refine ev_ite' (fun h1 => Ev.fin ?_) (fun h1 => ?_)
      · unfold homesOk; rw [decide_eq_true h1]; rfl
      · rw [show homesOk l i j = true by unfold homesOk; rw [decide_eq_false h1]; rfl, Bool.true_and]
        exact ih)
theorem spec_StockOk_l0 (l : List S79) (hn : l.length ≤ 4194304) (hx : ∀ x ∈ l, x.f2.length ≤ 4194304) : ∀ (d i : Nat), i + d = l.length → Ev (fun k => spec_StockOk.l0 k i l) (allFrom l.length i (podAtOk l))
  | 0, i, h => Ev.unroll (by
      simp only [spec_StockOk.l0]
      exact Ev.ifn (by omega) (Ev.fin (allFrom_end (by omega)).symm))
  | d + 1, i, h => Ev.unroll (by
      have hi : i < l.length := by omega
      have hp : (podAtN l i).f2.length ≤ 4194304 := by unfold podAtN; rw [getD_at hi]; exact hx _ (List.getElem_mem hi)
      have ih := spec_StockOk_l0 l hn hx d (i + 1) (by omega)
      have hs : Ev (fun k => spec_l5Stacks.f k (podAtN l i).f2) (decide ((podAtN l i).f2.length ≤ 8) && stacksOk (podAtN l i).f2) := spec_l5Stacks_l0 _ hp (podAtN l i).f2.length 0 (by omega)
      simp only [spec_StockOk.l0, spec_l1In_f, some_bind, rd_pod]
      rw [allFrom_step hi]
      refine Ev.ifp (by omega) (Ev.ifp (by omega) ?_)
      have no : podAtOk l i = false → Ev (fun k => spec_StockOk.j1 k i true l (podAtN l i).f0 (podAtN l i).f1 (podAtN l i).f2) (podAtOk l i && allFrom l.length (i + 1) (podAtOk l)) := fun e => Ev.unroll (by
        simp only [spec_StockOk.j1]
        exact Ev.ifp trivial (Ev.fin (by rw [e]; rfl)))
      have yes : podOk (podAtN l i) = true → (i = 0 ∨ (podAtN l (i - 1)).f0 < (podAtN l i).f0) → Ev (fun k => spec_StockOk.j1 k i false l (podAtN l i).f0 (podAtN l i).f1 (podAtN l i).f2) (podAtOk l i && allFrom l.length (i + 1) (podAtOk l)) := fun e e2 => Ev.unroll (by
        simp only [spec_StockOk.j1]
        rw [show podAtOk l i = allFrom i 0 (homesOk l i) by unfold podAtOk; rw [e, Bool.true_and, show (decide (i = 0) || decide ((podAtN l (i - 1)).f0 < (podAtN l i).f0)) = true by rcases e2 with h | h <;> simp [h], Bool.true_and]]
        exact Ev.ifn (by simp) (spec_StockOk_l1 l i hn hi _ ih i 0 (by omega)))
      refine ev_ite' (fun h1 => ev_ite' (fun h2 => Ev.bind hs (ev_ite' (fun h3 => ?_) (fun h3 => no ?_))) (fun h2 => no ?_)) (fun h1 => no ?_)
      · have hok : podOk (podAtN l i) = true := by unfold podOk; rw [h1, h2, h3]; rfl
        by_cases h0 : 0 < i
        · rw [wrap_pd (by omega) h0]
          simp only [rd_pod]
          refine Ev.ifp (by omega) (Ev.ifp (by omega) (Ev.ifp (by omega) ?_))
          by_cases h4 : (podAtN l (i - 1)).f0 ≥ (podAtN l i).f0
          · rw [decide_eq_true h4]
            exact no (by unfold podAtOk; rw [hok, decide_eq_false (by omega), decide_eq_false (by omega)]; rfl)
          · rw [decide_eq_false h4]
            exact yes hok (Or.inr (by omega))
        · exact Ev.ifn (by omega) (yes hok (Or.inl (by omega)))
      · unfold podAtOk podOk; rw [Bool.not_eq_true] at h3; rw [h3]; simp
      · unfold podAtOk podOk; rw [Bool.not_eq_true] at h2; rw [h2]; simp
      · unfold podAtOk podOk; rw [Bool.not_eq_true] at h1; rw [h1]; simp)
theorem spec_StockOk_f (l : List S79) (hn : l.length ≤ 4194304) (hx : ∀ x ∈ l, x.f2.length ≤ 4194304) : Ev (fun k => spec_StockOk.f k l) (stockOk l) := by
  unfold spec_StockOk.f stockOk
  by_cases h : l.length ≤ 12
  · rw [decide_eq_true h, Bool.true_and]
    exact Ev.ifn (by omega) (spec_StockOk_l0 l hn hx l.length 0 (by omega))
  · rw [decide_eq_false h, Bool.false_and]
    exact Ev.ifp (by omega) (Ev.now _)
theorem impl_StockOk_l1 (l ys : List S79) (i : Nat) (hn : l.length ≤ 4194304) (hi : i < l.length) (hy : ys = l.take i) (R : Bool) (hR : Ev (fun k => impl_StockOk.l0 k l l.length ((i + 1 : Nat) : Int) l) R) : ∀ (d j : Nat), j + d = i → Ev (fun k => impl_StockOk.l1 k l l.length i ys ys.length j l (podAtN l i).f0 (podAtN l i).f1 (podAtN l i).f2) (allFrom i j (homesOk l i) && R)
  | 0, j, h => Ev.unroll (by
      have hl : ys.length = i := by rw [hy]; simp; omega
      simp only [impl_StockOk.l1, wrap_sc (show i < 9223372036854775807 by omega)]
      rw [allFrom_end (by omega), Bool.true_and]
      exact Ev.ifn (by omega) hR)
  | d + 1, j, h => Ev.unroll (by
      have hl : ys.length = i := by rw [hy]; simp; omega
      have hj : podAtN ys j = podAtN l j := by unfold podAtN; rw [getD_at (by omega), getD_at (by omega)]; simp [hy]
      have ih := impl_StockOk_l1 l ys i hn hi hy R hR d (j + 1) (by omega)
      simp only [impl_StockOk.l1, rd_pod, wrap_sc (show j < 9223372036854775807 by omega)]
      rw [allFrom_step (by omega), hj]
      refine Ev.ifp (by omega) (Ev.ifp (by omega) (Ev.ifp (by omega) ?_))
      refine ev_ite' (fun h1 => Ev.fin ?_) (fun h1 => ?_)
      · unfold homesOk; rw [decide_eq_true h1]; rfl
      · rw [show homesOk l i j = true by unfold homesOk; rw [decide_eq_false h1]; rfl, Bool.true_and]
        exact ih)
theorem impl_StockOk_l0 (l : List S79) (hn : l.length ≤ 4194304) (hx : ∀ x ∈ l, x.f2.length ≤ 4194304) : ∀ (d i : Nat), i + d = l.length → Ev (fun k => impl_StockOk.l0 k l l.length i l) (allFrom l.length i (podAtOk l) && decide (l.length ≤ 12))
  | 0, i, h => Ev.unroll (by
      simp only [impl_StockOk.l0]
      refine Ev.ifn (by omega) (Ev.fin ?_)
      rw [allFrom_end (by omega), Bool.true_and, Bool.eq_iff_iff, decide_eq_true_eq, decide_eq_true_eq]; omega)
  | d + 1, i, h => Ev.unroll (by
      have hi : i < l.length := by omega
      have hp : (podAtN l i).f2.length ≤ 4194304 := by unfold podAtN; rw [getD_at hi]; exact hx _ (List.getElem_mem hi)
      have ih := impl_StockOk_l0 l hn hx d (i + 1) (by omega)
      have hs := impl_podOk_f (podAtN l i) hp
      simp only [impl_StockOk.l0, rd_pod]
      rw [allFrom_step hi]
      refine Ev.ifp (by omega) (Ev.ifp (by omega) (Ev.ifp (by omega) (Ev.bind hs ?_)))
      have no : podAtOk l i = false → Ev (fun k => impl_StockOk.j1 k i l l.length i true l (podAtN l i).f0 (podAtN l i).f1 (podAtN l i).f2) (podAtOk l i && allFrom l.length (i + 1) (podAtOk l) && decide (l.length ≤ 12)) := fun e => Ev.unroll (by
        simp only [impl_StockOk.j1]
        exact Ev.ifp trivial (Ev.fin (by rw [e]; rfl)))
      have yes : podOk (podAtN l i) = true → (i = 0 ∨ (podAtN l (i - 1)).f0 < (podAtN l i).f0) → Ev (fun k => impl_StockOk.j1 k i l l.length i false l (podAtN l i).f0 (podAtN l i).f1 (podAtN l i).f2) (podAtOk l i && allFrom l.length (i + 1) (podAtOk l) && decide (l.length ≤ 12)) := fun e e2 => Ev.unroll (by
        simp only [impl_StockOk.j1, some_bind, Int.toNat_natCast]
        rw [show podAtOk l i = allFrom i 0 (homesOk l i) by unfold podAtOk; rw [e, Bool.true_and, show (decide (i = 0) || decide ((podAtN l (i - 1)).f0 < (podAtN l i).f0)) = true by rcases e2 with h | h <;> simp [h], Bool.true_and], Bool.and_assoc]
        exact Ev.ifn (by simp) (Ev.ifp (by omega) (Ev.ifp (by omega) (impl_StockOk_l1 l _ i hn hi rfl _ ih i 0 (by omega)))))
      refine ev_ite' (fun hok => ?_) (fun hok => no ?_)
      · by_cases h0 : 0 < i
        · rw [wrap_pd (by omega) h0]
          simp only [rd_pod]
          refine Ev.ifp (by omega) (Ev.ifp (by omega) (Ev.ifp (by omega) ?_))
          by_cases h4 : (podAtN l (i - 1)).f0 ≥ (podAtN l i).f0
          · rw [decide_eq_true h4]
            exact no (by unfold podAtOk; rw [hok, decide_eq_false (by omega), decide_eq_false (by omega)]; rfl)
          · rw [decide_eq_false h4]
            exact yes hok (Or.inr (by omega))
        · exact Ev.ifn (by omega) (yes hok (Or.inl (by omega)))
      · unfold podAtOk; rw [Bool.not_eq_true] at hok; rw [hok]; simp)
theorem impl_StockOk_f (l : List S79) (hn : l.length ≤ 4194304) (hx : ∀ x ∈ l, x.f2.length ≤ 4194304) : Ev (fun k => impl_StockOk.f k l) (stockOk l) := by
  unfold impl_StockOk.f stockOk
  rw [Bool.and_comm]
  exact impl_StockOk_l0 l hn hx l.length 0 (by omega)

/-! #### StackOf -/
/-! The stack of a kind. -/
def lowIdx (l : List S72) (sku : Int) : Nat := (l.takeWhile (fun x => decide (x.f0 < sku))).length
def hitAt (l : List S72) (sku : Int) : Bool := decide (lowIdx l sku < l.length) && ((stackAt l (lowIdx l sku)).f0 == sku)
def stackOf (l : List S72) (sku : Int) : S72 := (l.find? (fun x => x.f0 == sku)).getD ⟨sku, 0, 0⟩
theorem lowIdx_le (l : List S72) (sku : Int) : lowIdx l sku ≤ l.length := by
  unfold lowIdx; exact (List.takeWhile_prefix _).length_le
theorem lowIdx_cons (x : S72) (l : List S72) (sku : Int) : lowIdx (x :: l) sku = if x.f0 < sku then lowIdx l sku + 1 else 0 := by
  unfold lowIdx
  rw [List.takeWhile_cons]
  by_cases h : x.f0 < sku <;> simp [h]
theorem hit_stack {sku : Int} : ∀ {l : List S72}, l.Pairwise (fun a b => a.f0 < b.f0) → (hitAt l sku = true → stackOf l sku = stackAt l (lowIdx l sku) ∧ (stackOf l sku).f0 = sku) ∧ (hitAt l sku = false → stackOf l sku = ⟨sku, 0, 0⟩ ∧ ∀ x ∈ l, x.f0 ≠ sku)
  | [], _ => ⟨fun h => by simp [hitAt] at h, fun _ => ⟨rfl, by simp⟩⟩
  | x :: t, hp => by
    have hs := List.pairwise_cons.1 hp
    have ih := hit_stack (sku := sku) hs.2
    have el := lowIdx_cons x t sku
    by_cases h1 : x.f0 < sku
    · rw [if_pos h1] at el
      have e1 : hitAt (x :: t) sku = hitAt t sku := by
        unfold hitAt stackAt
        rw [el, List.getD_cons_succ, List.length_cons]
        simp
      have e2 : stackOf (x :: t) sku = stackOf t sku := by
        unfold stackOf
        rw [List.find?_cons_of_neg (by simp; omega)]
      have e3 : stackAt (x :: t) (lowIdx (x :: t) sku) = stackAt t (lowIdx t sku) := by
        unfold stackAt; rw [el, List.getD_cons_succ]
      rw [e1, e2, e3]
      exact ⟨ih.1, fun h => ⟨(ih.2 h).1, fun y hy => by
        rcases List.mem_cons.1 hy with rfl | hy
        · omega
        · exact (ih.2 h).2 y hy⟩⟩
    · rw [if_neg h1] at el
      have e3 : stackAt (x :: t) (lowIdx (x :: t) sku) = x := by unfold stackAt; rw [el]; rfl
      by_cases h2 : x.f0 = sku
      · have e2 : stackOf (x :: t) sku = x := by unfold stackOf; rw [List.find?_cons_of_pos (by simpa using h2)]; rfl
        refine ⟨fun _ => ⟨by rw [e2, e3], by rw [e2]; exact h2⟩, fun h => ?_⟩
        unfold hitAt at h
        rw [e3, el] at h
        simp [h2] at h
      · have h4 : ∀ y ∈ x :: t, y.f0 ≠ sku := fun y hy => by
          rcases List.mem_cons.1 hy with rfl | hy
          · exact h2
          · have := hs.1 y hy; omega
        refine ⟨fun h => ?_, fun _ => ⟨?_, h4⟩⟩
        · unfold hitAt at h
          rw [e3] at h
          simp [h2] at h
        · unfold stackOf
          rw [List.find?_eq_none.2 (fun y hy => by simpa using h4 y hy)]; rfl
theorem stacks_facts {l : List S72} (h : stacksOk l = true) : l.Pairwise (fun a b => a.f0 < b.f0) ∧ ∀ x ∈ l, 1 ≤ x.f0 ∧ x.f0 ≤ 50 ∧ 1 ≤ x.f1 ∧ x.f1 ≤ 1000 ∧ 0 ≤ x.f2 ∧ x.f2 ≤ x.f1 := by
  unfold stacksOk at h
  rw [allFrom_iff] at h
  have hk : ∀ j, j < l.length → (1 ≤ (stackAt l j).f0 ∧ (stackAt l j).f0 ≤ 50 ∧ 1 ≤ (stackAt l j).f1 ∧ (stackAt l j).f1 ≤ 1000 ∧ 0 ≤ (stackAt l j).f2 ∧ (stackAt l j).f2 ≤ (stackAt l j).f1) ∧ (0 < j → (stackAt l (j - 1)).f0 < (stackAt l j).f0) := fun j hj => by
    have := h j (by omega) hj
    unfold stackOk at this
    simp only [Bool.and_eq_true, Bool.or_eq_true, inB_iff, decide_eq_true_eq] at this
    exact ⟨⟨this.1.1, this.1.2, this.2.1.1, this.2.1.2, this.2.2.1.1, this.2.2.1.2⟩, fun h0 => by rcases this.2.2.2 with h | h; omega; exact h⟩
  have step : ∀ (j i : Nat), i < j → j < l.length → (stackAt l i).f0 < (stackAt l j).f0 := by
    intro j
    induction j with
    | zero => intro i h; omega
    | succ j ih =>
      intro i h1 h2
      have h3 := (hk (j + 1) h2).2 (by omega)
      rw [Nat.add_sub_cancel] at h3
      by_cases e : i = j
      · subst e; exact h3
      · exact Int.lt_trans (ih i (by omega) (by omega)) h3
  refine ⟨List.pairwise_iff_getElem.2 fun i j hi hj hij => ?_, fun x hx => ?_⟩
  · have := step j i hij hj
    unfold stackAt at this
    rwa [getD_at hi, getD_at hj] at this
  · obtain ⟨j, hj, rfl⟩ := List.mem_iff_getElem.1 hx
    have := (hk j hj).1
    unfold stackAt at this
    rwa [getD_at hj] at this
structure PodFacts (p : S79) : Prop where
  id : 1 ≤ p.f0 ∧ p.f0 ≤ 999
  home : 0 ≤ p.f1 ∧ p.f1 ≤ 99
  len : p.f2.length ≤ 8
  stacks : stacksOk p.f2 = true
theorem stock_pods {l : List S79} (h : stockOk l = true) : l.length ≤ 12 ∧ ∀ i : Nat, i < l.length → PodFacts (podAtN l i) := by
  unfold stockOk at h
  simp only [Bool.and_eq_true, decide_eq_true_eq, allFrom_iff] at h
  refine ⟨h.1, fun i hi => ?_⟩
  have := h.2 i (by omega) hi
  unfold podAtOk podOk at this
  simp only [Bool.and_eq_true, inB_iff, decide_eq_true_eq] at this
  exact ⟨this.1.1, this.1.2.1, this.1.2.2.1, this.1.2.2.2⟩
theorem stackOf_bounds {l : List S72} (h : stacksOk l = true) (sku : Int) : 0 ≤ (stackOf l sku).f1 ∧ (stackOf l sku).f1 ≤ 1000 ∧ 0 ≤ (stackOf l sku).f2 ∧ (stackOf l sku).f2 ≤ (stackOf l sku).f1 := by
  have f := stacks_facts h
  unfold stackOf
  cases e : l.find? (fun x => x.f0 == sku) with
  | none => simp
  | some x =>
    have := f.2 x (List.mem_of_find?_eq_some e)
    simp only [Option.getD_some]; omega
theorem impl_stackAt_f (x y : Int) (l : List S72) (sku : Int) (hn : l.length ≤ 4194304) : Ev (fun k => impl_stackAt.f k x y l sku) ((lowIdx l sku : Nat), hitAt l sku) := by
  have key : ∀ (d i : Nat), i + d = l.length → i + lowIdx (l.drop i) sku = lowIdx l sku → Ev (fun k => impl_stackAt.l0 k sku i x y l) (((lowIdx l sku : Nat) : Int), hitAt l sku) := by
    intro d
    induction d with
    | zero =>
      intro i e hl
      refine Ev.unroll ?_
      simp only [impl_stackAt.l0]
      rw [drop_end (by omega)] at hl
      have : lowIdx l sku = i := by rw [← hl]; simp [lowIdx]
      refine Ev.ifn (by omega) (Ev.fin ?_)
      unfold hitAt
      rw [this, decide_eq_false (by omega)]; rfl
    | succ d ih =>
      intro i e hl
      have hi : i < l.length := by omega
      have ei : stackAt l i = l[i] := by unfold stackAt; exact getD_at hi
      refine Ev.unroll ?_
      simp only [impl_stackAt.l0, rd_stack, wrap_sc (show i < 9223372036854775807 by omega)]
      rw [drop_cons hi, lowIdx_cons, ← ei] at hl
      refine Ev.ifp (by omega) (Ev.ifp (by omega) (ev_ite' (fun h => ?_) (fun h => ?_)))
      · rw [if_pos h] at hl
        exact ih (i + 1) (by omega) (by omega)
      · rw [if_neg h] at hl
        have : lowIdx l sku = i := by omega
        refine Ev.fin ?_
        unfold hitAt
        rw [this, decide_eq_true hi, Bool.true_and]
  exact key l.length 0 (by omega) (by simp)

/-! #### StackSpec -/
theorem spec_l5Stack_f (x y : Int) (l : List S72) (sku : Int) (hn : l.length ≤ 4194304) : Ev (fun k => spec_l5Stack.f k x y l sku) ((stackOf l sku).f0, (stackOf l sku).f1, (stackOf l sku).f2) := by
  have key : ∀ (d i : Nat), i + d = l.length → stackOf (l.drop i) sku = stackOf l sku → Ev (fun k => spec_l5Stack.l0 k sku i x y l) ((stackOf l sku).f0, (stackOf l sku).f1, (stackOf l sku).f2) := by
    intro d
    induction d with
    | zero =>
      intro i e hl
      refine Ev.unroll ?_
      simp only [spec_l5Stack.l0]
      rw [drop_end (by omega)] at hl
      exact Ev.ifn (by omega) (Ev.fin (by rw [← hl]; rfl))
    | succ d ih =>
      intro i e hl
      have hi : i < l.length := by omega
      have ei : stackAt l i = l[i] := by unfold stackAt; exact getD_at hi
      refine Ev.unroll ?_
      simp only [spec_l5Stack.l0, rd_stack, wrap_sc (show i < 9223372036854775807 by omega), ei]
      rw [drop_cons hi] at hl
      refine Ev.ifp (by omega) (Ev.ifp (by omega) (ev_ite' (fun h => Ev.fin ?_) (fun h => ih (i + 1) (by omega) ?_)))
      · rw [← hl]; unfold stackOf; rw [List.find?_cons_of_pos (by simpa using h)]; rfl
      · rw [← hl]; unfold stackOf; rw [List.find?_cons_of_neg (by simpa using h)]
  exact key l.length 0 (by omega) rfl

/-! #### CountFree -/
/-- What there is of a kind, and what of it is not held, from place i on. -/
def countFrom (l : List S79) (sku : Int) : Nat → Nat → Int → Int
  | 0, _, acc => acc
  | d + 1, i, acc => countFrom l sku d (i + 1) (acc + (stackOf (podAtN l i).f2 sku).f1)
def freeFrom (l : List S79) (sku : Int) : Nat → Nat → Int → Int
  | 0, _, acc => acc
  | d + 1, i, acc => freeFrom l sku d (i + 1) (acc + ((stackOf (podAtN l i).f2 sku).f1 - (stackOf (podAtN l i).f2 sku).f2))
def countOf (l : List S79) (sku : Int) : Int := if stockOk l = true then countFrom l sku l.length 0 0 else 0
def freeOf (l : List S79) (sku : Int) : Int := if stockOk l = true then freeFrom l sku l.length 0 0 else 0
theorem pods_len {l : List S79} (hok : stockOk l = true) : l.length ≤ 4194304 ∧ ∀ x ∈ l, x.f2.length ≤ 4194304 := by
  have f := stock_pods hok
  refine ⟨by omega, fun x hx => ?_⟩
  obtain ⟨j, hj, rfl⟩ := List.mem_iff_getElem.1 hx
  have := (f.2 j hj).len
  unfold podAtN at this
  rw [getD_at hj] at this; omega
/-- What the place tells: the stack of the kind, or that there is none. -/
theorem hit_facts {l : List S72} (h : stacksOk l = true) (sku : Int) : (hitAt l sku = true → lowIdx l sku < l.length ∧ stackAt l (lowIdx l sku) = stackOf l sku) ∧ (hitAt l sku = false → (stackOf l sku).f1 = 0 ∧ (stackOf l sku).f2 = 0) := by
  have f := hit_stack (sku := sku) (stacks_facts h).1
  refine ⟨fun e => ⟨?_, (f.1 e).1.symm⟩, fun e => by rw [(f.2 e).1]; exact ⟨rfl, rfl⟩⟩
  unfold hitAt at e
  rw [Bool.and_eq_true, decide_eq_true_eq] at e
  exact e.1
/-! #### StockOps -/
/-! Copies, places, and stacks with one in the place of its like. -/
theorem impl_copyStock_f (l : List S79) (hn : l.length ≤ 4194304) (hx : ∀ x ∈ l, x.f2.length ≤ 4194304) : Ev (fun k => impl_copyStock.f k l) l := by
  have key : ∀ (d i : Nat), i + d = l.length → Ev (fun k => impl_copyStock.l0 k l (l.length : Int) i (l.take i)) l := by
    intro d
    induction d with
    | zero =>
      intro i e
      refine Ev.unroll ?_
      simp only [impl_copyStock.l0]
      exact Ev.ifn (by omega) (Ev.fin (List.take_of_length_le (by omega)))
    | succ d ih =>
      intro i e
      have hi : i < l.length := by omega
      have hb := hx _ (List.getElem_mem hi)
      have e1 : podAtN l i = l[i] := by unfold podAtN; exact getD_at hi
      refine Ev.unroll ?_
      simp only [impl_copyStock.l0, rd_pod, e1, List.nil_append, List.length_nil, List.length_take, wrap_sc (show i < 9223372036854775807 by omega)]
      refine Ev.ifp (by omega) (Ev.ifp (by omega) (Ev.ifp (by omega) (Ev.ifp (by omega) (Ev.ifp (by omega) ?_))))
      have h := ih (i + 1) (by omega)
      rw [List.take_succ_eq_append_getElem hi] at h
      exact h
  exact key l.length 0 (by omega)
def podIdx (l : List S79) (id : Int) : Int := match l.findIdx? (fun p => p.f0 == id) with
  | some i => (i : Int)
  | none => -1
theorem podIdx_bounds (l : List S79) (id : Int) : -1 ≤ podIdx l id ∧ podIdx l id < l.length := by
  unfold podIdx
  cases e : l.findIdx? (fun p => p.f0 == id) with
  | none => show -1 ≤ (-1 : Int) ∧ (-1 : Int) < l.length; omega
  | some i =>
    have := (List.findIdx?_eq_some_iff_getElem.1 e).1
    show -1 ≤ (i : Int) ∧ (i : Int) < l.length; omega
theorem podIdx_cons (p : S79) (l : List S79) (id : Int) : podIdx (p :: l) id = if p.f0 = id then 0 else if podIdx l id = -1 then -1 else podIdx l id + 1 := by
  unfold podIdx
  rw [List.findIdx?_cons]
  by_cases h : p.f0 = id
  · simp [h]
  · have hb : (p.f0 == id) = false := by simpa using h
    rw [hb]
    cases e : l.findIdx? (fun p => p.f0 == id) with
    | none => simp [h]
    | some i => simp [h]
theorem impl_podAt_f (l : List S79) (id : Int) (hn : l.length ≤ 4194304) : Ev (fun k => impl_podAt.f k l id) (podIdx l id) := by
  have key : ∀ (d i : Nat), i + d = l.length → Ev (fun k => impl_podAt.l0 k id l (l.length : Int) i) (if podIdx (l.drop i) id = -1 then -1 else (i : Int) + podIdx (l.drop i) id) := by
    intro d
    induction d with
    | zero =>
      intro i e
      refine Ev.unroll ?_
      simp only [impl_podAt.l0]
      rw [drop_end (by omega)]
      exact Ev.ifn (by omega) (Ev.fin (by simp [podIdx]))
    | succ d ih =>
      intro i e
      have hi : i < l.length := by omega
      have e1 : podAtN l i = l[i] := by unfold podAtN; exact getD_at hi
      have hb := podIdx_bounds (l.drop (i + 1)) id
      refine Ev.unroll ?_
      simp only [impl_podAt.l0, rd_pod, e1, wrap_sc (show i < 9223372036854775807 by omega)]
      rw [drop_cons hi, podIdx_cons]
      refine Ev.ifp (by omega) (Ev.ifp (by omega) (Ev.ifp (by omega) (ev_ite' (fun h => Ev.fin ?_) (fun h => ?_))))
      · rw [if_pos h, if_neg (by omega)]; omega
      · have h2 := ih (i + 1) (by omega)
        rw [if_neg h]
        refine Ev.congr (fun _ => rfl) (r := _) ?_
        by_cases h3 : podIdx (l.drop (i + 1)) id = -1
        · rw [if_pos h3] at h2; rw [if_pos h3, if_pos rfl]; exact h2
        · rw [if_neg h3] at h2
          rw [if_neg h3, if_neg (by omega)]
          rw [show (i : Int) + (podIdx (l.drop (i + 1)) id + 1) = ((i + 1 : Nat) : Int) + podIdx (l.drop (i + 1)) id by omega]
          exact h2
  have h := key l.length 0 (by omega)
  rw [List.drop_zero] at h
  have hb := podIdx_bounds l id
  rw [show (if podIdx l id = -1 then (-1 : Int) else ((0 : Nat) : Int) + podIdx l id) = podIdx l id by split <;> omega] at h
  exact h
/-- Is what is asked of a stock in form? -/
def askOk (l : List S79) (sku n : Int) : Bool := stockOk l && (inB sku 1 50 && inB n 1 1000)
def placeOf (l : List S79) (id sku n : Int) : Int × Int := if askOk l sku n = true then (if 0 ≤ podIdx l id then (podIdx l id, 0) else (-1, 2)) else (-1, 1)
theorem impl_place_f (l : List S79) (id sku n : Int) (hn : l.length ≤ 4194304) (hx : ∀ x ∈ l, x.f2.length ≤ 4194304) : Ev (fun k => impl_place.f k l id sku n) (placeOf l id sku n) := by
  have hj : Ev (fun k => impl_place.j0 k id false l) (if 0 ≤ podIdx l id then (podIdx l id, 0) else (-1, 2)) := by
    refine Ev.unroll ?_
    simp only [impl_place.j0]
    refine Ev.ifn (by decide) (Ev.bind (impl_podAt_f l id hn) ?_)
    by_cases h : 0 ≤ podIdx l id
    · exact Ev.ifp h (Ev.fin (if_pos h).symm)
    · exact Ev.ifn (by omega) (Ev.fin (if_neg h).symm)
  have hf : Ev (fun k => impl_place.j0 k id true l) (((-1 : Int), (1 : Int))) := by
    refine Ev.unroll ?_
    simp only [impl_place.j0]
    exact Ev.ifp (by first | rfl | trivial) (Ev.now _)
  unfold impl_place.f placeOf askOk
  refine Ev.bind (impl_StockOk_f l hn hx) ?_
  simp only [impl_in_f, some_bind]
  cases h1 : stockOk l
  · simp only [Bool.false_and]; exact Ev.ifn (by decide) hf
  · refine Ev.ifp (by first | rfl | trivial) ?_
    cases h2 : inB sku 1 50
    · simp only [Bool.true_and, Bool.false_and]; exact Ev.ifn (by decide) hf
    · refine Ev.ifp (by first | rfl | trivial) ?_
      cases h3 : inB n 1 1000
      · exact hf
      · exact hj
/-- Stacks with one in the place of its like, or in order; put: it is there already. -/
def insS (x : S72) : Bool → List S72 → List S72
  | b, [] => if b = true then [] else [x]
  | b, y :: ys => if (!b && decide (y.f0 ≥ x.f0)) = true then x :: (if y.f0 = x.f0 then insS x true ys else y :: insS x true ys) else (if y.f0 = x.f0 then insS x b ys else y :: insS x b ys)
theorem insS_true_len (x : S72) : ∀ l : List S72, (insS x true l).length ≤ l.length
  | [] => by simp [insS]
  | y :: ys => by
    have h1 := insS_true_len x ys
    unfold insS
    rw [if_neg (by simp)]
    split <;> simp only [List.length_cons] <;> omega
theorem insS_len (x : S72) : ∀ (b : Bool) (l : List S72), (insS x b l).length ≤ l.length + 1
  | b, [] => by unfold insS; split <;> simp
  | b, y :: ys => by
    have h1 := insS_true_len x ys
    have h2 := insS_len x b ys
    unfold insS
    split <;> split <;> simp only [List.length_cons] <;> omega
/-- What l5With comes to over stacks in order. -/
theorem insS_gone (x : S72) : ∀ (l : List S72), (∀ y ∈ l, y.f0 ≠ x.f0) → insS x true l = l
  | [], _ => rfl
  | y :: ys, h => by
    unfold insS
    rw [if_neg (by simp), if_neg (h y List.mem_cons_self), insS_gone x ys (fun z hz => h z (List.mem_cons_of_mem _ hz))]
theorem insS_hit (x : S72) (b : Bool) : ∀ {l : List S72}, l.Pairwise (fun a b => a.f0 < b.f0) → hitAt l x.f0 = true → insS x b l = if b = true then l.take (lowIdx l x.f0) ++ l.drop (lowIdx l x.f0 + 1) else l.set (lowIdx l x.f0) x
  | [], _, h => by simp [hitAt] at h
  | y :: t, hp, h => by
    have hs := List.pairwise_cons.1 hp
    have el := lowIdx_cons y t x.f0
    by_cases h1 : y.f0 < x.f0
    · rw [if_pos h1] at el
      have e1 : hitAt t x.f0 = true := by
        rw [← h]
        unfold hitAt stackAt
        rw [el, List.getD_cons_succ, List.length_cons]
        simp
      have ih := insS_hit x b hs.2 e1
      unfold insS
      rw [if_neg (by simp; omega), if_neg (by omega), ih, el]
      cases b <;> simp
    · rw [if_neg h1] at el
      have h2 : y.f0 = x.f0 := by
        unfold hitAt stackAt at h
        rw [el] at h
        simpa using h
      have hg : insS x true t = t := insS_gone x t (fun z hz => by have := hs.1 z hz; omega)
      rw [el]
      cases b
      · unfold insS
        rw [if_pos (by simp; omega), if_pos h2, hg]
        rfl
      · unfold insS
        rw [if_neg (by simp), if_pos h2, hg]
        rfl
theorem insS_new (x : S72) : ∀ {l : List S72}, l.Pairwise (fun a b => a.f0 < b.f0) → (∀ y ∈ l, y.f0 ≠ x.f0) → insS x false l = l.take (lowIdx l x.f0) ++ x :: l.drop (lowIdx l x.f0)
  | [], _, _ => rfl
  | y :: t, hp, h => by
    have hs := List.pairwise_cons.1 hp
    have el := lowIdx_cons y t x.f0
    have h2 := h y List.mem_cons_self
    have ht : ∀ z ∈ t, z.f0 ≠ x.f0 := fun z hz => h z (List.mem_cons_of_mem _ hz)
    by_cases h1 : y.f0 < x.f0
    · rw [if_pos h1] at el
      have ih := insS_new x hs.2 ht
      unfold insS
      rw [if_neg (by simp; omega), if_neg h2, ih, el]
      rfl
    · rw [if_neg h1] at el
      unfold insS
      rw [if_pos (by simp; omega), if_neg h2, insS_gone x t ht, el]
      rfl

/-! #### MarkStock -/
/-- a, a + 1, .. in the places of a stock. -/
def marksS : Nat → Nat → List S72
  | 0, _ => []
  | n + 1, a => ⟨(a : Int), ((a + 1 : Nat) : Int), ((a + 2 : Nat) : Int)⟩ :: marksS n (a + 3)
theorem marksS_length : ∀ n a, (marksS n a).length = n
  | 0, _ => rfl
  | n + 1, a => by simp [marksS, marksS_length n]
theorem marksS_get : ∀ (n a i : Nat), i < n → stackAt (marksS n a) i = ⟨((a + 3 * i : Nat) : Int), ((a + 3 * i + 1 : Nat) : Int), ((a + 3 * i + 2 : Nat) : Int)⟩
  | 0, _, _, h => by omega
  | n + 1, a, 0, _ => by simp [marksS, stackAt]
  | n + 1, a, i + 1, h => by
    have := marksS_get n (a + 3) i (by omega)
    unfold stackAt at this ⊢
    rw [marksS, List.getD_cons_succ, this]
    congr 1 <;> congr 1 <;> omega
theorem marksS_succ : ∀ (n a : Nat), marksS (n + 1) a = marksS n a ++ [⟨((a + 3 * n : Nat) : Int), ((a + 3 * n + 1 : Nat) : Int), ((a + 3 * n + 2 : Nat) : Int)⟩]
  | 0, a => rfl
  | n + 1, a => by
    rw [marksS, marksS_succ n (a + 3), marksS]
    simp only [List.cons_append]
    congr 3
    congr 1 <;> congr 1 <;> omega
theorem getD_mid {α : Type} (ys zs : List α) (x d : α) (i : Nat) (h : i = ys.length) : (ys ++ x :: zs).getD i d = x := by subst h; simp [List.getD_eq_getElem?_getD]
theorem wrap_n (x : Nat) (h : x + 1 ≤ BIG) : wrap64 ((x : Int) + 1) = ((x + 1 : Nat) : Int) := by unfold wrap64; unfold BIG at h; omega
theorem markStackS_f (l : List S72) (a : Nat) (hn : a + 3 * l.length + 3 ≤ BIG) : Ev (fun k => laws_markStackS.f k l (a : Int)) (((a + 3 * l.length : Nat) : Int), marksS l.length a) := by
  have key : ∀ (d i : Nat) (zs : List S72), i + d = l.length → zs.length = d → Ev (fun k => laws_markStackS.l0 k (marksS i a ++ zs) ((a + 3 * i : Nat) : Int) i) (((a + 3 * l.length : Nat) : Int), marksS l.length a) := by
    intro d
    induction d with
    | zero =>
      intro i zs e hz
      obtain rfl := List.length_eq_zero_iff.1 hz
      obtain rfl : i = l.length := by omega
      refine Ev.unroll ?_
      simp only [laws_markStackS.l0, List.append_nil, marksS_length]
      exact Ev.ifn (by omega) (Ev.now _)
    | succ d ih =>
      intro i zs e hz
      have hl : (marksS i a ++ zs).length = l.length := by rw [List.length_append, marksS_length]; omega
      have hw := wrap_n (a + 3 * i) (by omega)
      have hw1 := wrap_n (a + 3 * i + 1) (by omega)
      have hw2 := wrap_n (a + 3 * i + 2) (by omega)
      refine Ev.unroll ?_
      simp only [laws_markStackS.l0, hl, some_bind, Int.toNat_natCast, hw, hw1, hw2, wrap_n i (by omega)]
      refine Ev.ifp (by omega) (Ev.ifp (by omega) ?_)
      match zs, hz with
      | z :: zs, hz =>
        have es : ∀ x : S72, (marksS i a ++ z :: zs).set i x = marksS i a ++ x :: zs := fun x => by rw [List.set_append_right _ _ (by rw [marksS_length]; omega), marksS_length, Nat.sub_self]; rfl
        have es2 : ∀ x y : S72, (marksS i a ++ x :: zs).set i y = marksS i a ++ y :: zs := fun x y => by rw [List.set_append_right _ _ (by rw [marksS_length]; omega), marksS_length, Nat.sub_self]; rfl
        have er : ∀ x : S72, rd_T72 (marksS i a ++ x :: zs) (i : Int) = x := fun x => by
          rw [rd_stack]; unfold stackAt
          exact getD_mid _ _ _ _ _ (marksS_length i a).symm
        simp only [es, es2, er]
        have h := ih (i + 1) zs (by omega) (by simpa using hz)
        rw [marksS_succ, List.append_assoc] at h
        rw [show a + 3 * (i + 1) = a + 3 * i + 2 + 1 by omega] at h
        exact h
  exact key l.length 0 l (by omega) rfl
def marksP : List S79 → Nat → List S79
  | [], _ => []
  | p :: ps, a => ⟨(a : Int), ((a + 1 : Nat) : Int), marksS p.f2.length (a + 2)⟩ :: marksP ps (a + 2 + 3 * p.f2.length)
def endP : List S79 → Nat → Nat
  | [], a => a
  | p :: ps, a => endP ps (a + 2 + 3 * p.f2.length)
theorem endP_le : ∀ (l : List S79) (a : Nat), (∀ x ∈ l, x.f2.length ≤ 4194304) → endP l a ≤ a + 20000000 * l.length
  | [], a, _ => by simp [endP]
  | p :: ps, a, h => by
    have h1 := endP_le ps (a + 2 + 3 * p.f2.length) (fun x hx => h x (List.mem_cons_of_mem _ hx))
    have h2 := h p List.mem_cons_self
    simp only [endP, List.length_cons]
    omega
theorem endP_ge : ∀ (l : List S79) (a : Nat), a ≤ endP l a
  | [], a => Nat.le_refl _
  | p :: ps, a => by have := endP_ge ps (a + 2 + 3 * p.f2.length); simp only [endP]; omega
theorem marksP_length : ∀ l a, (marksP l a).length = l.length
  | [], _ => rfl
  | p :: ps, a => by simp [marksP, marksP_length ps]
theorem markPodS_l0 : ∀ (l ys : List S79) (a : Nat), endP l a + 10 ≤ BIG → ys.length + l.length ≤ 4194304 → Ev (fun k => laws_markPodS.l0 k (ys ++ l) (a : Int) ys.length) (((endP l a : Nat) : Int), ys ++ marksP l a)
  | [], ys, a, h, hl => Ev.unroll (by
      simp only [laws_markPodS.l0, List.append_nil, marksP]
      exact Ev.ifn (by omega) (Ev.now _))
  | p :: ps, ys, a, h, hl => Ev.unroll (by
      have hge := endP_ge ps (a + 2 + 3 * p.f2.length)
      simp only [endP] at h
      simp only [List.length_cons] at hl
      have hw := wrap_n a (by omega)
      have hw1 := wrap_n (a + 1) (by omega)
      have er : rd_T79 (ys ++ p :: ps) (ys.length : Int) = p := by
        rw [rd_pod]; unfold podAtN
        exact getD_mid _ _ _ _ _ rfl
      simp only [laws_markPodS.l0, er, hw, hw1, wrap_n ys.length (by unfold BIG; omega), Int.toNat_natCast]
      refine Ev.ifp (by simp only [List.length_append, List.length_cons]; omega) (Ev.ifp (by omega) (Ev.bind (markStackS_f p.f2 (a + 1 + 1) (by omega)) ?_))
      have es : (ys ++ p :: ps).set ys.length ⟨(a : Int), ((a + 1 : Nat) : Int), marksS p.f2.length (a + 1 + 1)⟩ = (ys ++ [⟨(a : Int), ((a + 1 : Nat) : Int), marksS p.f2.length (a + 1 + 1)⟩]) ++ ps := by
        rw [List.set_append_right _ _ (Nat.le_refl _), Nat.sub_self]; simp
      have ih := markPodS_l0 ps (ys ++ [⟨(a : Int), ((a + 1 : Nat) : Int), marksS p.f2.length (a + 1 + 1)⟩]) (a + 2 + 3 * p.f2.length) h (by simp only [List.length_append, List.length_singleton]; omega)
      simp only [es]
      rw [List.length_append, List.length_singleton] at ih
      rw [show ys ++ marksP (p :: ps) a = (ys ++ [⟨(a : Int), ((a + 1 : Nat) : Int), marksS p.f2.length (a + 1 + 1)⟩]) ++ marksP ps (a + 2 + 3 * p.f2.length) by simp [marksP]]
      exact ih)
theorem markStock_f (l : List S79) (hn : l.length ≤ 4194304) (hx : ∀ x ∈ l, x.f2.length ≤ 4194304) : Ev (fun k => laws_markStock.f k l 1) (((endP l 1 : Nat) : Int), marksP l 1) := by
  have h := endP_le l 1 hx
  exact markPodS_l0 l [] 1 (by unfold BIG; omega) (by simp; omega)
/-! #### ExactStock -/
/-- Bounds of a stock that came in small enough. -/
theorem mkPod_small {l : List S117} (h1 : l.length ≤ 1048576) (h2 : ∀ x ∈ l, x.f2.length ≤ 1048576) : (l.map mkPod).length ≤ 1048576 ∧ ∀ x ∈ l.map mkPod, x.f2.length ≤ 1048576 :=
  ⟨by rw [List.length_map]; exact h1, fun x hx => by
    obtain ⟨y, hy, rfl⟩ := List.mem_map.1 hx
    have := h2 y hy
    simp only [mkPod, List.length_map]; omega⟩
theorem small_big {l : List S79} (h : l.length ≤ 1048576 ∧ ∀ x ∈ l, x.f2.length ≤ 1048576) : l.length ≤ 4194304 ∧ ∀ x ∈ l, x.f2.length ≤ 4194304 := ⟨by omega, fun x hx => by have := h.2 x hx; omega⟩
theorem set_big {l : List S79} (h : l.length ≤ 4194304 ∧ ∀ x ∈ l, x.f2.length ≤ 4194304) (i : Nat) (p : S79) (hp : p.f2.length ≤ 4194304) : (l.set i p).length ≤ 4194304 ∧ ∀ x ∈ l.set i p, x.f2.length ≤ 4194304 :=
  ⟨by simpa using h.1, fun x hx => by
    rcases List.mem_or_eq_of_mem_set hx with hx | rfl
    · exact h.2 x hx
    · exact hp⟩

/-! #### Items -/
theorem szItemS_f (l : List S108) (h : l.length ≤ 9223372036854775807) : laws_szItemS.f l 1048576 = some (if l.length ≤ 1048576 then 1048576 - (l.length : Int) else -1) := by
  unfold laws_szItemS.f
  rw [wrap_id (by omega) (by omega)]
  split <;> split <;> first | rfl | omega
def mkItem (a : S108) : S48 := ⟨a.f0, a.f1⟩
theorem toItemS_l0 (xs : List S108) (hn : xs.length ≤ 1048576) : ∀ (d i : Nat) (ys zs : List S48), i + d = xs.length → ys.length = i → zs.length = d → ys = (xs.take i).map mkItem →
    Ev (fun k => laws_toItemS.l0 k xs (ys ++ zs) i) (xs.map mkItem)
  | 0, i, ys, zs, h, hy, hz, e => Ev.unroll (by
      simp only [laws_toItemS.l0]
      simp only [if_neg (show ¬ (i : Int) < xs.length by omega)]
      obtain rfl := List.length_eq_zero_iff.1 hz
      rw [e, List.take_of_length_le (by omega), List.append_nil]
      exact Ev.now _)
  | d + 1, i, ys, zs, h, hy, hz, e => Ev.unroll (by
      have hi : i < xs.length := by omega
      simp only [laws_toItemS.l0, laws_toItem.f, some_bind]
      simp only [if_pos (show (i : Int) < xs.length by omega), if_pos (show (0 : Int) ≤ i by omega), if_pos (show (i : Int) < (ys ++ zs).length by simp; omega), wrap_succ hi (by unfold BIG; omega), rd_T108, Int.toNat_natCast, getD_at hi]
      rw [fill_step ys zs _ hy.symm (by omega)]
      exact toItemS_l0 xs hn d (i + 1) _ _ (by omega) (by simp; omega) (by simp; omega) (by rw [List.take_succ_eq_append_getElem hi, List.map_append, ← e]; rfl))
theorem toItemS_f (l : List S108) (h : l.length ≤ 1048576) : Ev (fun k => laws_toItemS.f k l) (l.map mkItem) := by
  unfold laws_toItemS.f
  simp only [if_pos (show (0 : Int) ≤ l.length by omega), if_pos (show (l.length : Int).toNat ≤ 17592186044416 by omega)]
  rw [Int.toNat_natCast]
  exact toItemS_l0 l h l.length 0 [] _ (by omega) rfl (by simp) rfl
theorem eqItem_f (a b c d : Int) : laws_eqItem.f a b c d = some (decide (a = c ∧ b = d)) := by
  unfold laws_eqItem.f
  by_cases h : a = c <;> by_cases h2 : b = d <;> simp [h, h2]
theorem eqItemS_l0 (xs : List S48) (hn : xs.length ≤ 1048576) : ∀ (d i : Nat), i + d = xs.length → Ev (fun k => laws_eqItemS.l0 k xs xs i) true
  | 0, i, h => Ev.unroll (by
      simp only [laws_eqItemS.l0]
      simp only [if_neg (show ¬ (i : Int) < xs.length by omega)]
      exact Ev.now _)
  | d + 1, i, h => Ev.unroll (by
      have hi : i < xs.length := by omega
      simp only [laws_eqItemS.l0, eqItem_f, some_bind, and_self, decide_true]
      simp only [if_pos (show (i : Int) < xs.length by omega), if_pos (show (0 : Int) ≤ i by omega), wrap_succ hi (show _ ≤ BIG by unfold BIG; omega), if_true]
      exact eqItemS_l0 xs hn d (i + 1) (by omega))
theorem eqItemS_f (l : List S48) (h : l.length ≤ 1048576) : Ev (fun k => laws_eqItemS.f k l l) true := by
  unfold laws_eqItemS.f
  simp only [if_true]
  exact eqItemS_l0 l h l.length 0 (by omega)

/-! #### MarkItems -/
theorem szItemS_n (l : List S108) (b : Int) (h : l.length ≤ 9223372036854775807) (h0 : 0 ≤ b) (h1 : b ≤ 1048576) : laws_szItemS.f l b = some (if (l.length : Int) ≤ b then b - (l.length : Int) else -1) := by
  unfold laws_szItemS.f
  rw [wrap_id (by omega) (by omega)]
  split <;> split <;> first | rfl | omega
theorem markItemS_l0 (n : Nat) (hn : n ≤ 1048576) : ∀ (d i a : Nat) (zs : List S48), i + d = n → zs.length = n → a ≤ 1048576 * 1048576 * 1048576 + 2 * i → ∃ r : Int × List S48, Ev (fun k => laws_markItemS.l0 k zs (a : Int) i) r ∧ r.1 = ((a + 2 * d : Nat) : Int)
  | 0, i, a, zs, h, hz, ha => ⟨((a : Int), zs), Ev.unroll (by
      simp only [laws_markItemS.l0, hz]
      simp only [if_neg (show ¬ (i : Int) < (n : Int) by omega)]
      exact Ev.now _), rfl⟩
  | d + 1, i, a, zs, h, hz, ha => by
      have w1 : wrap64 ((a : Int) + 1) = ((a + 1 : Nat) : Int) := by unfold wrap64; omega
      have w2 : wrap64 (((a + 1 : Nat) : Int) + 1) = ((a + 2 : Nat) : Int) := by unfold wrap64; omega
      obtain ⟨r, hr, h1⟩ := markItemS_l0 n hn d (i + 1) (a + 2) ((zs.set i ⟨(a : Int), (rd_T48 zs i).f1⟩).set i ⟨(rd_T48 (zs.set i ⟨(a : Int), (rd_T48 zs i).f1⟩) i).f0, ((a + 1 : Nat) : Int)⟩) (by omega) (by simp only [List.length_set]; exact hz) (by omega)
      refine ⟨r, Ev.unroll ?_, by rw [h1]; congr 1; omega⟩
      simp only [laws_markItemS.l0, hz, some_bind, Int.toNat_natCast]
      simp only [if_pos (show (i : Int) < (n : Int) by omega), if_pos (show (0 : Int) ≤ i by omega), wrap_succ (show i < n by omega) (show n ≤ BIG by unfold BIG; omega), w1, w2]
      exact hr
theorem markItemS_f (l : List S48) (a : Nat) (hn : l.length ≤ 1048576) (ha : a ≤ 1048576 * 1048576 * 1048576) : ∃ r : Int × List S48, Ev (fun k => laws_markItemS.f k l (a : Int)) r ∧ r.1 = ((a + 2 * l.length : Nat) : Int) :=
  markItemS_l0 l.length hn l.length 0 a l (by omega) rfl (by omega)

/-! #### MarkPickK -/
def pickAtN (l : List S50) (j : Nat) : S50 := l.getD j z50
theorem rd_pickN {l : List S50} {i : Nat} : rd_T50 l (i : Int) = pickAtN l i := by unfold rd_T50 pickAtN; rw [Int.toNat_natCast]
/-- a, a + 1, .. in the places of a stock. -/
def marksK : Nat → Nat → List S50
  | 0, _ => []
  | n + 1, a => ⟨(a : Int), ((a + 1 : Nat) : Int), ((a + 2 : Nat) : Int)⟩ :: marksK n (a + 3)
theorem marksK_length : ∀ n a, (marksK n a).length = n
  | 0, _ => rfl
  | n + 1, a => by simp [marksK, marksK_length n]
theorem marksK_get : ∀ (n a i : Nat), i < n → pickAtN (marksK n a) i = ⟨((a + 3 * i : Nat) : Int), ((a + 3 * i + 1 : Nat) : Int), ((a + 3 * i + 2 : Nat) : Int)⟩
  | 0, _, _, h => by omega
  | n + 1, a, 0, _ => by simp [marksK, pickAtN]
  | n + 1, a, i + 1, h => by
    have := marksK_get n (a + 3) i (by omega)
    unfold pickAtN at this ⊢
    rw [marksK, List.getD_cons_succ, this]
    congr 1 <;> congr 1 <;> omega
theorem marksK_succ : ∀ (n a : Nat), marksK (n + 1) a = marksK n a ++ [⟨((a + 3 * n : Nat) : Int), ((a + 3 * n + 1 : Nat) : Int), ((a + 3 * n + 2 : Nat) : Int)⟩]
  | 0, a => rfl
  | n + 1, a => by
    rw [marksK, marksK_succ n (a + 3), marksK]
    simp only [List.cons_append]
    congr 3
    congr 1 <;> congr 1 <;> omega
theorem markPickK_f (l : List S50) (a : Nat) (hn : a + 3 * l.length + 3 ≤ BIG) : Ev (fun k => laws_markPickS.f k l (a : Int)) (((a + 3 * l.length : Nat) : Int), marksK l.length a) := by
  have key : ∀ (d i : Nat) (zs : List S50), i + d = l.length → zs.length = d → Ev (fun k => laws_markPickS.l0 k (marksK i a ++ zs) ((a + 3 * i : Nat) : Int) i) (((a + 3 * l.length : Nat) : Int), marksK l.length a) := by
    intro d
    induction d with
    | zero =>
      intro i zs e hz
      obtain rfl := List.length_eq_zero_iff.1 hz
      obtain rfl : i = l.length := by omega
      refine Ev.unroll ?_
      simp only [laws_markPickS.l0, List.append_nil, marksK_length]
      exact Ev.ifn (by omega) (Ev.now _)
    | succ d ih =>
      intro i zs e hz
      have hl : (marksK i a ++ zs).length = l.length := by rw [List.length_append, marksK_length]; omega
      have hw := wrap_n (a + 3 * i) (by omega)
      have hw1 := wrap_n (a + 3 * i + 1) (by omega)
      have hw2 := wrap_n (a + 3 * i + 2) (by omega)
      refine Ev.unroll ?_
      simp only [laws_markPickS.l0, hl, some_bind, Int.toNat_natCast, hw, hw1, hw2, wrap_n i (by omega)]
      refine Ev.ifp (by omega) (Ev.ifp (by omega) ?_)
      match zs, hz with
      | z :: zs, hz =>
        have es : ∀ x : S50, (marksK i a ++ z :: zs).set i x = marksK i a ++ x :: zs := fun x => by rw [List.set_append_right _ _ (by rw [marksK_length]; omega), marksK_length, Nat.sub_self]; rfl
        have es2 : ∀ x y : S50, (marksK i a ++ x :: zs).set i y = marksK i a ++ y :: zs := fun x y => by rw [List.set_append_right _ _ (by rw [marksK_length]; omega), marksK_length, Nat.sub_self]; rfl
        have er : ∀ x : S50, rd_T50 (marksK i a ++ x :: zs) (i : Int) = x := fun x => by
          rw [rd_pickN]; unfold pickAtN
          exact getD_mid _ _ _ _ _ (marksK_length i a).symm
        simp only [es, es2, er]
        have h := ih (i + 1) zs (by omega) (by simpa using hz)
        rw [marksK_succ, List.append_assoc] at h
        rw [show a + 3 * (i + 1) = a + 3 * i + 2 + 1 by omega] at h
        exact h
  exact key l.length 0 l (by omega) rfl
theorem heldPickK_f (n a : Nat) (hn : a + 3 * n + 3 ≤ BIG) : Ev (fun k => laws_heldPickS.f k (marksK n a) (a : Int)) ((a + 3 * n : Nat) : Int) := by
  have key : ∀ (d i : Nat), i + d = n → Ev (fun k => laws_heldPickS.l0 k (marksK n a) ((a + 3 * i : Nat) : Int) i) ((a + 3 * n : Nat) : Int) := by
    intro d
    induction d with
    | zero =>
      intro i e
      obtain rfl : i = n := by omega
      refine Ev.unroll ?_
      simp only [laws_heldPickS.l0, marksK_length]
      exact Ev.ifn (by omega) (Ev.now _)
    | succ d ih =>
      intro i e
      have hw := wrap_n (a + 3 * i) (by omega)
      have hw1 := wrap_n (a + 3 * i + 1) (by omega)
      have hw2 := wrap_n (a + 3 * i + 2) (by omega)
      refine Ev.unroll ?_
      simp only [laws_heldPickS.l0, marksK_length, rd_pickN, marksK_get n a i (by omega), hw, hw1, hw2, wrap_n i (by omega)]
      refine Ev.ifp (by omega) (Ev.ifp (by omega) (Ev.ifp (by first | rfl | trivial) (Ev.ifp (by first | rfl | trivial) (Ev.ifp (by first | rfl | trivial) ?_))))
      have h := ih (i + 1) (by omega)
      rw [show a + 3 * (i + 1) = a + 3 * i + 2 + 1 by omega] at h
      exact h
  exact key n 0 (by omega)

/-! #### HoldP -/
/-- What is held of a pod's stack is more by 'more'. -/
def heldOf (l : List S79) (id sku n more : Int) : List S79 × Int :=
  if askOk l sku n = true then (if 0 ≤ podIdx l id then
    (if hitAt (rd_T79 l (podIdx l id)).f2 sku = true ∧ 0 ≤ (stackOf (rd_T79 l (podIdx l id)).f2 sku).f2 + more ∧ (stackOf (rd_T79 l (podIdx l id)).f2 sku).f2 + more ≤ (stackOf (rd_T79 l (podIdx l id)).f2 sku).f1 then
      (l.set (podIdx l id).toNat ⟨(rd_T79 l (podIdx l id)).f0, (rd_T79 l (podIdx l id)).f1, (rd_T79 l (podIdx l id)).f2.set (lowIdx (rd_T79 l (podIdx l id)).f2 sku) ⟨sku, (stackOf (rd_T79 l (podIdx l id)).f2 sku).f1, (stackOf (rd_T79 l (podIdx l id)).f2 sku).f2 + more⟩⟩, 0)
    else (l, 3)) else (l, 2)) else (l, 1)
structure AskFacts (l : List S79) (id sku n : Int) : Prop where
  len : l.length ≤ 12
  idx : podIdx l id < l.length
  pod : podOk (rd_T79 l (podIdx l id)) = true
  st : stacksOk (rd_T79 l (podIdx l id)).f2 = true
  st8 : (rd_T79 l (podIdx l id)).f2.length ≤ 8
  sku : 1 ≤ sku ∧ sku ≤ 50
  n : 1 ≤ n ∧ n ≤ 1000
theorem ask_facts {l : List S79} {id sku n : Int} (h : askOk l sku n = true) (h0 : 0 ≤ podIdx l id) : AskFacts l id sku n := by
  unfold askOk at h
  simp only [Bool.and_eq_true, inB_iff] at h
  have hb := podIdx_bounds l id
  obtain ⟨i, hi⟩ : ∃ i : Nat, podIdx l id = (i : Int) := ⟨(podIdx l id).toNat, by omega⟩
  have hs := h.1
  unfold stockOk at hs
  simp only [Bool.and_eq_true, decide_eq_true_eq, allFrom_iff] at hs
  have hp := hs.2 i (by omega) (by omega)
  unfold podAtOk at hp
  simp only [Bool.and_eq_true] at hp
  have hq := hp.1
  have hq2 := hq
  unfold podOk at hq2
  simp only [Bool.and_eq_true, decide_eq_true_eq] at hq2
  rw [← rd_pod] at hq hq2
  rw [← hi] at hq hq2
  exact ⟨hs.1, hb.2, hq, hq2.2.2.2, hq2.2.2.1, h.2.1, h.2.2⟩
theorem impl_held_f (l : List S79) (id sku n more : Int) (hn : l.length ≤ 4194304) (hx : ∀ x ∈ l, x.f2.length ≤ 4194304) (hm : more = n ∨ more = -n) : Ev (fun k => impl_held.f k l id sku n more) (heldOf l id sku n more) := by
  unfold impl_held.f heldOf
  refine Ev.bind (impl_copyStock_f l hn hx) (Ev.bind (impl_place_f l id sku n hn hx) ?_)
  unfold placeOf
  by_cases ha : askOk l sku n = true
  · rw [if_pos ha, if_pos ha]
    by_cases h0 : 0 ≤ podIdx l id
    · have f := ask_facts ha h0
      rw [if_pos h0, if_pos h0]
      have hf := stackOf_bounds f.st sku
      have hh := hit_facts f.st sku
      have hs := hit_stack (sku := sku) (stacks_facts f.st).1
      refine Ev.ifp (by first | rfl | trivial) (Ev.ifp h0 (Ev.ifp f.idx (Ev.bind (impl_stackAt_f _ _ (rd_T79 l (podIdx l id)).f2 sku (by have := f.st8; omega)) ?_)))
      generalize hp : rd_T79 l (podIdx l id) = p at *
      have hfn := f.n
      cases hit : hitAt p.f2 sku
      · refine Ev.ifn (by simp) (Ev.fin ?_)
        rw [if_neg (fun h => by cases h.1)]
      · have h1 := hh.1 hit
        have h2 := hs.1 hit
        have e1 : rd_T72 p.f2 ((lowIdx p.f2 sku : Nat) : Int) = stackOf p.f2 sku := by rw [rd_stack]; exact h1.2
        have hw : wrap64 ((stackOf p.f2 sku).f2 + more) = (stackOf p.f2 sku).f2 + more := wrap_id (by omega) (by omega)
        refine Ev.ifp (by first | rfl | trivial) (Ev.ifp (by omega) (Ev.ifp (by omega) ?_))
        simp only [e1, impl_in_f, some_bind, hw, Int.toNat_natCast]
        by_cases hc : 0 ≤ (stackOf p.f2 sku).f2 + more ∧ (stackOf p.f2 sku).f2 + more ≤ (stackOf p.f2 sku).f1
        · refine Ev.ifp (inB_iff.2 hc) (Ev.fin ?_)
          rw [if_pos (by exact ⟨by first | rfl | trivial, hc⟩), h2.2]
        · refine Ev.ifn (fun h => hc (inB_iff.1 h)) (Ev.fin ?_)
          rw [if_neg (fun h => hc h.2)]
    · rw [if_neg h0, if_neg h0]
      exact Ev.ifn (by decide) (Ev.now _)
  · rw [if_neg ha, if_neg ha]
    exact Ev.ifn (by decide) (Ev.now _)
theorem impl_Hold_f (l : List S79) (id sku n : Int) (hn : l.length ≤ 4194304) (hx : ∀ x ∈ l, x.f2.length ≤ 4194304) : Ev (fun k => impl_Hold.f k l id sku n) (heldOf l id sku n n) := by
  unfold impl_Hold.f
  exact Ev.bind (impl_held_f l id sku n n hn hx (.inl rfl)) (Ev.now _)
/-! #### ReleaseP -/
/-! #### HeldLen -/
theorem heldOf_len (l : List S79) (id sku n more : Int) (hn : l.length ≤ 1048576) (hx : ∀ x ∈ l, x.f2.length ≤ 1048576) : (heldOf l id sku n more).1.length ≤ 4194304 ∧ ∀ x ∈ (heldOf l id sku n more).1, x.f2.length ≤ 4194304 := by
  have base : l.length ≤ 4194304 ∧ ∀ x ∈ l, x.f2.length ≤ 4194304 := ⟨by omega, fun x h => by have := hx x h; omega⟩
  unfold heldOf
  split
  · split
    · rename_i ha h0
      have f := ask_facts ha h0
      split
      · refine ⟨by simp only [List.length_set]; omega, fun x h => ?_⟩
        rcases List.mem_or_eq_of_mem_set h with h | rfl
        · exact base.2 x h
        · have := f.st8; simp only [List.length_set]; omega
      · exact base
    · exact base
  · exact base

/-! #### TakeOutP -/
def takenStacks (s : List S72) (sku n : Int) : List S72 := if (stackOf s sku).f1 - n = 0 then s.take (lowIdx s sku) ++ s.drop (lowIdx s sku + 1) else s.set (lowIdx s sku) ⟨sku, (stackOf s sku).f1 - n, (stackOf s sku).f2 - n⟩
def takeOf (l : List S79) (id sku n : Int) : List S79 × Int :=
  if askOk l sku n = true then (if 0 ≤ podIdx l id then
    (if hitAt (rd_T79 l (podIdx l id)).f2 sku = true ∧ n ≤ (stackOf (rd_T79 l (podIdx l id)).f2 sku).f2 then
      (l.set (podIdx l id).toNat ⟨(rd_T79 l (podIdx l id)).f0, (rd_T79 l (podIdx l id)).f1, takenStacks (rd_T79 l (podIdx l id)).f2 sku n⟩, 0)
    else (l, 3)) else (l, 2)) else (l, 1)
theorem takeOf_len (l : List S79) (id sku n : Int) (hn : l.length ≤ 4194304) (hx : ∀ x ∈ l, x.f2.length ≤ 4194304) : (takeOf l id sku n).1.length ≤ 4194304 ∧ ∀ x ∈ (takeOf l id sku n).1, x.f2.length ≤ 4194304 := by
  unfold takeOf
  split
  · split
    · rename_i ha h0
      have f := ask_facts ha h0
      have h8 := f.st8
      split
      · refine set_big ⟨hn, hx⟩ _ _ ?_
        unfold takenStacks
        dsimp only
        split
        · simp only [List.length_append, List.length_take, List.length_drop]; omega
        · simp only [List.length_set]; omega
      · exact ⟨hn, hx⟩
    · exact ⟨hn, hx⟩
  · exact ⟨hn, hx⟩
theorem lowIdx_set (s : List S72) (sku : Int) (j : Nat) (x : S72) (hx : ∀ h : j < s.length, x.f0 = s[j].f0) : lowIdx (s.set j x) sku = lowIdx s sku := by
  induction s generalizing j with
  | nil => simp
  | cons y t ih =>
    cases j with
    | zero =>
      have := hx (by simp)
      simp only [List.getElem_cons_zero] at this
      rw [List.set_cons_zero, lowIdx_cons, lowIdx_cons, this]
    | succ j =>
      rw [List.set_cons_succ, lowIdx_cons, lowIdx_cons, ih j (fun h => by have := hx (by simp; omega); simpa using this)]
theorem podIdx_set (l : List S79) (id : Int) (j : Nat) (x : S79) (hx : ∀ h : j < l.length, x.f0 = l[j].f0) : podIdx (l.set j x) id = podIdx l id := by
  induction l generalizing j with
  | nil => simp
  | cons y t ih =>
    cases j with
    | zero =>
      have := hx (by simp)
      simp only [List.getElem_cons_zero] at this
      rw [List.set_cons_zero, podIdx_cons, podIdx_cons, this]
    | succ j =>
      rw [List.set_cons_succ, podIdx_cons, podIdx_cons, ih j (fun h => by have := hx (by simp; omega); simpa using this)]
theorem rd_pod_get {l : List S79} {i : Int} (h0 : 0 ≤ i) (h1 : i < l.length) : rd_T79 l i = l[i.toNat]'(by omega) := by
  unfold rd_T79; exact getD_at (by omega)
theorem rd_pod_set {l : List S79} {i : Int} (h0 : 0 ≤ i) (h1 : i < l.length) (p : S79) : rd_T79 (l.set i.toNat p) i = p := by
  unfold rd_T79
  rw [getD_at (by rw [List.length_set]; omega), List.getElem_set_self]
/-! #### EachOf -/
/-! One operation after the other over the picks, or nothing at all. -/
def BigS (l : List S79) : Prop := l.length ≤ 4194304 ∧ ∀ x ∈ l, x.f2.length ≤ 4194304
def eachOf (O : List S79 → Int → Int → Int → List S79 × Int) (s : List S79) : List S50 → List S79 → List S79 × Bool
  | [], out => (out, true)
  | p :: ps, out => if (O out p.f0 p.f1 p.f2).2 = 0 then eachOf O s ps (O out p.f0 p.f1 p.f2).1 else (s, false)
theorem eachOf_big {O : List S79 → Int → Int → Int → List S79 × Int} (hO : ∀ l a b c, BigS l → BigS (O l a b c).1) {s : List S79} (hs : BigS s) : ∀ (ps : List S50) (out : List S79), BigS out → BigS (eachOf O s ps out).1
  | [], out, h => h
  | p :: ps, out, h => by
    unfold eachOf
    split
    · exact eachOf_big hO hs ps _ (hO _ _ _ _ h)
    · exact hs
theorem heldOf_big (l : List S79) (id sku n more : Int) (h : BigS l) : BigS (heldOf l id sku n more).1 := by
  unfold heldOf
  split
  · split
    · rename_i ha h0
      have f := ask_facts ha h0
      split
      · refine ⟨by simp only [List.length_set]; exact h.1, fun x hx => ?_⟩
        rcases List.mem_or_eq_of_mem_set hx with hx | rfl
        · exact h.2 x hx
        · have := f.st8; simp only [List.length_set]; omega
      · exact h
    · exact h
  · exact h
theorem takeOf_big (l : List S79) (id sku n : Int) (h : BigS l) : BigS (takeOf l id sku n).1 := takeOf_len l id sku n h.1 h.2
def opOf (a : Int) : List S79 → Int → Int → Int → List S79 × Int := fun l id sku n => if a = 1 then heldOf l id sku n n else if a = 2 then heldOf l id sku n (-n) else takeOf l id sku n
theorem opOf_big (a : Int) (l : List S79) (id sku n : Int) (h : BigS l) : BigS (opOf a l id sku n).1 := by
  unfold opOf
  split
  · exact heldOf_big l id sku n _ h
  · split
    · exact heldOf_big l id sku n _ h
    · exact takeOf_big l id sku n h
/-! #### Could -/
/-! What could be taken of a pod for some items. -/
def av (p : S79) (sku : Int) : Int := (stackOf p.f2 sku).f1 - (stackOf p.f2 sku).f2
def tak (p : S79) (it : S48) : Int := if av p it.f0 < it.f1 then av p it.f0 else it.f1
def couldL (p : S79) : List S48 → List S50
  | [] => []
  | it :: t => if 0 < tak p it then ⟨p.f0, it.f0, tak p it⟩ :: couldL p t else couldL p t
def couldN (p : S79) : List S48 → Int
  | [] => 0
  | it :: t => if 0 < tak p it then tak p it + couldN p t else couldN p t
/-- Items as the picking has them: few, small. -/
structure Left (l : List S48) : Prop where
  len : l.length ≤ 6
  num : ∀ x ∈ l, 1 ≤ x.f0 ∧ x.f0 ≤ 50 ∧ 0 ≤ x.f1 ∧ x.f1 ≤ 1000
  ord : l.Pairwise (fun a b => a.f0 < b.f0)
theorem Left.tail {x : S48} {l : List S48} (h : Left (x :: l)) : Left l := ⟨by have := h.len; simp at this; omega, fun y hy => h.num y (List.mem_cons_of_mem _ hy), (List.pairwise_cons.1 h.ord).2⟩
theorem rd_item {l : List S48} {i : Nat} (hi : i < l.length) : rd_T48 l (i : Int) = l[i] := rd_struct_at hi
theorem couldL_len (p : S79) : ∀ l : List S48, (couldL p l).length ≤ l.length
  | [] => by simp [couldL]
  | it :: t => by
    have := couldL_len p t
    unfold couldL
    split <;> simp only [List.length_cons] <;> omega
theorem couldN_bounds {p : S79} : ∀ {l : List S48}, Left l → 0 ≤ couldN p l ∧ couldN p l ≤ 1000 * (l.length : Int)
  | [], _ => by simp [couldN]
  | it :: t, h => by
    have ih := couldN_bounds (p := p) h.tail
    have hn := h.num it List.mem_cons_self
    unfold couldN
    have : tak p it ≤ it.f1 := by unfold tak; split <;> omega
    split <;> simp only [List.length_cons] <;> omega
theorem spec_l6Could_f (p : S79) (l : List S48) (hl : Left l) (hp : stacksOk p.f2 = true) (h8 : p.f2.length ≤ 8) : Ev (fun k => spec_l6Could.f k p.f0 p.f1 p.f2 l) (couldL p l, couldN p l) := by
  have key : ∀ (d i : Nat) (acc : List S50) (n : Int), i + d = l.length → acc.length ≤ i → 0 ≤ n → n ≤ 1000 * (i : Int) → Ev (fun k => spec_l6Could.l0 k l acc n i p.f0 p.f1 p.f2) (acc ++ couldL p (l.drop i), n + couldN p (l.drop i)) := by
    intro d
    induction d with
    | zero =>
      intro i acc n e ha h0 h1
      refine Ev.unroll ?_
      simp only [spec_l6Could.l0]
      rw [drop_end (by omega)]
      exact Ev.ifn (by omega) (Ev.fin (by simp [couldL, couldN]))
    | succ d ih =>
      intro i acc n e ha h0 h1
      have hi : i < l.length := by omega
      have h6 := hl.len
      have hn := hl.num l[i] (List.getElem_mem hi)
      have hb := stackOf_bounds hp l[i].f0
      have hs := spec_l5Stack_f p.f0 p.f1 p.f2 l[i].f0 (by omega)
      have ea : wrap64 ((stackOf p.f2 l[i].f0).f1 - (stackOf p.f2 l[i].f0).f2) = av p l[i].f0 := wrap_id (by omega) (by omega)
      have ht : tak p l[i] ≤ 1000 := by unfold tak; split <;> omega
      have ih1 := ih (i + 1) acc n (by omega) (by omega) (by omega) (by omega)
      have ih2 := fun h : 0 < tak p l[i] => ih (i + 1) (acc ++ [⟨p.f0, l[i].f0, tak p l[i]⟩]) (n + tak p l[i]) (by omega) (by simp; omega) (by omega) (by omega)
      refine Ev.unroll ?_
      simp only [spec_l6Could.l0, rd_item hi, wrap_sc (show i < 9223372036854775807 by omega)]
      rw [drop_cons hi, couldL, couldN]
      refine Ev.ifp (by omega) (Ev.ifp (by omega) (Ev.bind hs ?_))
      simp only [ea]
      by_cases c : l[i].f1 < av p l[i].f0
      · have et : tak p l[i] = l[i].f1 := by unfold tak; rw [if_neg (by omega)]
        rw [et] at ih2 ⊢
        refine Ev.ifp c ?_
        by_cases c2 : 0 < l[i].f1
        · rw [if_pos c2, if_pos c2]
          have h3 := ih2 c2
          rw [List.append_assoc, Int.add_assoc] at h3
          rw [wrap_id (x := n + l[i].f1) (by omega) (by omega)]
          exact Ev.ifp c2 (Ev.ifp (by omega) h3)
        · rw [if_neg c2, if_neg c2]; exact Ev.ifn c2 ih1
      · have et : tak p l[i] = av p l[i].f0 := by unfold tak; split <;> omega
        rw [et] at ih2 ⊢
        refine Ev.ifn c ?_
        by_cases c2 : 0 < av p l[i].f0
        · rw [if_pos c2, if_pos c2]
          have h3 := ih2 c2
          rw [List.append_assoc, Int.add_assoc] at h3
          rw [wrap_id (x := n + av p l[i].f0) (by omega) (by omega)]
          exact Ev.ifp c2 (Ev.ifp (by omega) h3)
        · rw [if_neg c2, if_neg c2]; exact Ev.ifn c2 ih1
  have h := key l.length 0 [] 0 (by omega) (by simp) (by omega) (by omega)
  rw [List.drop_zero, List.nil_append, Int.zero_add] at h
  exact h
theorem impl_could_f (p : S79) (l : List S48) (hl : Left l) (hp : stacksOk p.f2 = true) (h8 : p.f2.length ≤ 8) : Ev (fun k => impl_could.f k p.f0 p.f1 p.f2 l) (couldL p l, couldN p l) := by
  have key : ∀ (d i : Nat) (acc : List S50) (n : Int), i + d = l.length → acc.length ≤ i → 0 ≤ n → n ≤ 1000 * (i : Int) → Ev (fun k => impl_could.l0 k acc n l (l.length : Int) i p.f0 p.f1 p.f2) (acc ++ couldL p (l.drop i), n + couldN p (l.drop i)) := by
    intro d
    induction d with
    | zero =>
      intro i acc n e ha h0 h1
      refine Ev.unroll ?_
      simp only [impl_could.l0]
      rw [drop_end (by omega)]
      exact Ev.ifn (by omega) (Ev.fin (by simp [couldL, couldN]))
    | succ d ih =>
      intro i acc n e ha h0 h1
      have hi : i < l.length := by omega
      have h6 := hl.len
      have hn := hl.num l[i] (List.getElem_mem hi)
      have hb := stackOf_bounds hp l[i].f0
      have hh := hit_facts hp l[i].f0
      have hs := impl_stackAt_f p.f0 p.f1 p.f2 l[i].f0 (by omega)
      have ht : tak p l[i] ≤ 1000 := by unfold tak; split <;> omega
      have ih1 := ih (i + 1) acc n (by omega) (by omega) (by omega) (by omega)
      have ih2 := fun h : 0 < tak p l[i] => ih (i + 1) (acc ++ [⟨p.f0, l[i].f0, tak p l[i]⟩]) (n + tak p l[i]) (by omega) (by simp; omega) (by omega) (by omega)
      refine Ev.unroll ?_
      simp only [impl_could.l0, rd_item hi, wrap_sc (show i < 9223372036854775807 by omega)]
      rw [drop_cons hi, couldL, couldN]
      refine Ev.ifp (by omega) (Ev.ifp (by omega) (Ev.ifp (by omega) (Ev.bind hs ?_)))
      cases hit : hitAt p.f2 l[i].f0
      · have h0 := hh.2 hit
        have et : ¬ 0 < tak p l[i] := by unfold tak av; split <;> omega
        rw [if_neg et, if_neg et]
        exact Ev.ifn (by simp) ih1
      · have h1 := hh.1 hit
        have er : rd_T72 p.f2 ((lowIdx p.f2 l[i].f0 : Nat) : Int) = stackOf p.f2 l[i].f0 := by rw [rd_stack]; exact h1.2
        have ea : wrap64 ((stackOf p.f2 l[i].f0).f1 - (stackOf p.f2 l[i].f0).f2) = av p l[i].f0 := wrap_id (by omega) (by omega)
        have em : mn l[i].f1 (av p l[i].f0) = tak p l[i] := rfl
        simp only [er, ea, em]
        refine Ev.ifp trivial (Ev.ifp (by omega) (Ev.ifp (by omega) ?_))
        by_cases c2 : 0 < tak p l[i]
        · rw [if_pos c2, if_pos c2]
          have h3 := ih2 c2
          rw [List.append_assoc, Int.add_assoc] at h3
          rw [wrap_id (x := n + tak p l[i]) (by omega) (by omega)]
          exact Ev.ifp c2 (Ev.ifp (by omega) h3)
        · rw [if_neg c2, if_neg c2]; exact Ev.ifn c2 ih1
  have h := key l.length 0 [] 0 (by omega) (by simp) (by omega) (by omega)
  rw [List.drop_zero, List.nil_append, Int.zero_add] at h
  exact h

/-! #### PickHold -/
/-! All picks of one pod are held. -/
theorem podAtN_set {l : List S79} {b : Nat} (hb : b < l.length) (p : S79) (i : Nat) : podAtN (l.set b p) i = if i = b then p else podAtN l i := by
  unfold podAtN
  rw [List.getD_eq_getElem?_getD, List.getElem?_set, List.getD_eq_getElem?_getD]
  by_cases e : i = b
  · subst e; simp [hb]
  · rw [if_neg (fun h => e h.symm), if_neg e]
theorem stock_ids {l : List S79} (h : stockOk l = true) : ∀ i j : Nat, i < j → j < l.length → (podAtN l i).f0 < (podAtN l j).f0 := by
  unfold stockOk at h
  simp only [Bool.and_eq_true, decide_eq_true_eq, allFrom_iff] at h
  have hk : ∀ j, 0 < j → j < l.length → (podAtN l (j - 1)).f0 < (podAtN l j).f0 := fun j h0 hj => by
    have := h.2 j (by omega) hj
    unfold podAtOk at this
    simp only [Bool.and_eq_true, Bool.or_eq_true, decide_eq_true_eq] at this
    rcases this.2.1 with h1 | h1
    · omega
    · exact h1
  intro i j
  induction j with
  | zero => intro h; omega
  | succ j ih =>
    intro h1 h2
    have h3 := hk (j + 1) (by omega) h2
    rw [Nat.add_sub_cancel] at h3
    by_cases e : i = j
    · subst e; exact h3
    · exact Int.lt_trans (ih (by omega) (by omega)) h3
theorem podIdx_at {l : List S79} (h : stockOk l = true) {b : Nat} (hb : b < l.length) : podIdx l (podAtN l b).f0 = (b : Int) := by
  have hi := stock_ids h
  have e : l.findIdx? (fun p => p.f0 == (podAtN l b).f0) = some b := by
    rw [List.findIdx?_eq_some_iff_getElem]
    refine ⟨hb, ?_, fun j hj => ?_⟩
    · unfold podAtN; rw [getD_at hb]; simp
    · have := hi j b hj hb
      unfold podAtN at this ⊢
      rw [getD_at (show j < l.length by omega)] at this
      simp only [beq_iff_eq]
      exact Int.ne_of_lt this
  unfold podIdx
  rw [e]
theorem stock_set {l : List S79} (h : stockOk l = true) {b : Nat} (hb : b < l.length) {p : S79} (e0 : p.f0 = (podAtN l b).f0) (e1 : p.f1 = (podAtN l b).f1) (hk : podOk p = true) : stockOk (l.set b p) = true := by
  have f0 : ∀ j, (podAtN (l.set b p) j).f0 = (podAtN l j).f0 := fun j => by
    rw [podAtN_set hb]; split
    · rename_i e; rw [e, e0]
    · rfl
  have f1 : ∀ j, (podAtN (l.set b p) j).f1 = (podAtN l j).f1 := fun j => by
    rw [podAtN_set hb]; split
    · rename_i e; rw [e, e1]
    · rfl
  unfold stockOk at h ⊢
  simp only [Bool.and_eq_true, decide_eq_true_eq, allFrom_iff, List.length_set] at h ⊢
  refine ⟨h.1, fun i h1 h2 => ?_⟩
  have h3 := h.2 i h1 h2
  unfold podAtOk at h3 ⊢
  have eh : homesOk (l.set b p) i = homesOk l i := by funext k; unfold homesOk; rw [f1, f1]
  rw [f0, f0, eh]
  simp only [Bool.and_eq_true] at h3 ⊢
  refine ⟨?_, h3.2⟩
  rw [podAtN_set hb]
  split
  · exact hk
  · exact h3.1
theorem stackAt_set {l : List S72} {b : Nat} (hb : b < l.length) (p : S72) (i : Nat) : stackAt (l.set b p) i = if i = b then p else stackAt l i := by
  unfold stackAt
  rw [List.getD_eq_getElem?_getD, List.getElem?_set, List.getD_eq_getElem?_getD]
  by_cases e : i = b
  · subst e; simp [hb]
  · rw [if_neg (fun h => e h.symm), if_neg e]
theorem stacks_set {l : List S72} (h : stacksOk l = true) {b : Nat} (hb : b < l.length) {p : S72} (e0 : p.f0 = (stackAt l b).f0) (e1 : p.f1 = (stackAt l b).f1) (h0 : 0 ≤ p.f2) (h1 : p.f2 ≤ p.f1) : stacksOk (l.set b p) = true := by
  have f0 : ∀ j, (stackAt (l.set b p) j).f0 = (stackAt l j).f0 := fun j => by
    rw [stackAt_set hb]; split
    · rename_i e; rw [e, e0]
    · rfl
  have f1 : ∀ j, (stackAt (l.set b p) j).f1 = (stackAt l j).f1 := fun j => by
    rw [stackAt_set hb]; split
    · rename_i e; rw [e, e1]
    · rfl
  unfold stacksOk at h ⊢
  simp only [allFrom_iff, List.length_set] at h ⊢
  intro i h2 h3
  have h4 := h i h2 h3
  unfold stackOk at h4 ⊢
  rw [f0, f0, f1]
  simp only [Bool.and_eq_true] at h4 ⊢
  refine ⟨h4.1, h4.2.1, ?_, h4.2.2.2⟩
  rw [stackAt_set hb]
  split
  · rename_i e; rw [inB_iff]; subst e; omega
  · exact h4.2.2.1
theorem stackOf_set : ∀ {l : List S72}, l.Pairwise (fun a b => a.f0 < b.f0) → ∀ {j : Nat}, j < l.length → ∀ {x : S72}, x.f0 = (stackAt l j).f0 → ∀ sku : Int, stackOf (l.set j x) sku = if sku = x.f0 then x else stackOf l sku
  | [], _, j, hj, _, _, _ => by simp at hj
  | y :: t, hp, 0, _, x, e, sku => by
    have e2 : x.f0 = y.f0 := e
    unfold stackOf
    rw [List.set_cons_zero, List.find?_cons, List.find?_cons]
    by_cases h : sku = x.f0
    · subst h; simp
    · rw [if_neg h, show (x.f0 == sku) = false by rw [beq_eq_false_iff_ne]; omega, show (y.f0 == sku) = false by rw [beq_eq_false_iff_ne]; omega]
  | y :: t, hp, j + 1, hj, x, e, sku => by
    have hs := List.pairwise_cons.1 hp
    have hj2 : j < t.length := by simpa using hj
    have e2 : x.f0 = (stackAt t j).f0 := by rw [e]; unfold stackAt; rw [List.getD_cons_succ]
    have ih := stackOf_set hs.2 hj2 e2 sku
    have hlt : y.f0 < x.f0 := by rw [e2]; unfold stackAt; rw [getD_at hj2]; exact hs.1 _ (List.getElem_mem hj2)
    unfold stackOf at ih ⊢
    rw [List.set_cons_succ, List.find?_cons, List.find?_cons]
    by_cases h : y.f0 = sku
    · subst h
      rw [if_neg (by omega)]
      simp
    · rw [show (y.f0 == sku) = false by rw [beq_eq_false_iff_ne]; exact h]
      exact ih
theorem hold_one {l : List S79} (h : stockOk l = true) {b : Nat} (hb : b < l.length) {sku n : Int} (hs : 1 ≤ sku ∧ sku ≤ 50) (h1 : 1 ≤ n) (hn : n ≤ av (podAtN l b) sku) :
    ∃ p, heldOf l (podAtN l b).f0 sku n n = (l.set b p, 0) ∧ stockOk (l.set b p) = true ∧ p.f0 = (podAtN l b).f0 ∧ ∀ s : Int, av p s = if s = sku then av (podAtN l b) sku - n else av (podAtN l b) s := by
  have hpf := (stock_pods h).2 b hb
  have hid := podIdx_at h hb
  have hbd := stackOf_bounds hpf.stacks sku
  have hst := stacks_facts hpf.stacks
  have hf := hit_facts hpf.stacks sku
  have hq := hit_stack (sku := sku) hst.1
  have hav : av (podAtN l b) sku = (stackOf (podAtN l b).f2 sku).f1 - (stackOf (podAtN l b).f2 sku).f2 := rfl
  have ha : askOk l sku n = true := by unfold askOk; rw [h, Bool.true_and, Bool.and_eq_true, inB_iff, inB_iff]; omega
  have hit : hitAt (podAtN l b).f2 sku = true := by
    cases e : hitAt (podAtN l b).f2 sku with
    | true => rfl
    | false => have := hf.2 e; omega
  have hh := hf.1 hit
  have hh2 := hq.1 hit
  refine ⟨⟨(podAtN l b).f0, (podAtN l b).f1, (podAtN l b).f2.set (lowIdx (podAtN l b).f2 sku) ⟨sku, (stackOf (podAtN l b).f2 sku).f1, (stackOf (podAtN l b).f2 sku).f2 + n⟩⟩, ?_, ?_, rfl, fun s => ?_⟩
  · unfold heldOf
    rw [if_pos ha, hid, if_pos (by omega), rd_pod, if_pos ⟨hit, by omega, by omega⟩, Int.toNat_natCast]
  · refine stock_set h hb rfl rfl ?_
    unfold podOk
    simp only [Bool.and_eq_true, inB_iff, decide_eq_true_eq, List.length_set]
    refine ⟨hpf.id, hpf.home, hpf.len, stacks_set hpf.stacks hh.1 ?_ ?_ (by show 0 ≤ (stackOf (podAtN l b).f2 sku).f2 + n; omega) (by show (stackOf (podAtN l b).f2 sku).f2 + n ≤ (stackOf (podAtN l b).f2 sku).f1; omega)⟩
    · show sku = _; rw [hh.2, hh2.2]
    · show _ = _; rw [hh.2]
  · unfold av
    dsimp only
    rw [stackOf_set hst.1 hh.1 (by show sku = _; rw [hh.2, hh2.2]) s]
    dsimp only
    by_cases e : s = sku
    · rw [if_pos e, if_pos e]; dsimp only; omega
    · rw [if_neg e, if_neg e]
/-- What could be taken depends on the pod's name and on what is free. -/
theorem could_same {p q : S79} (e : p.f0 = q.f0) : ∀ {l : List S48}, (∀ it ∈ l, av p it.f0 = av q it.f0) → couldL p l = couldL q l ∧ couldN p l = couldN q l
  | [], _ => ⟨rfl, rfl⟩
  | it :: t, h => by
    have ih := could_same e (fun x hx => h x (List.mem_cons_of_mem _ hx))
    have et : tak p it = tak q it := by unfold tak; rw [h it List.mem_cons_self]
    unfold couldL couldN
    rw [et, ih.1, ih.2, e]
    exact ⟨rfl, rfl⟩
theorem hold_all (s0 : List S79) (b : Nat) : ∀ (its : List S48) (s : List S79), stockOk s = true → b < s.length → Left its →
    ∃ s', eachOf (opOf 1) s0 (couldL (podAtN s b) its) s = (s', true) ∧ stockOk s' = true ∧ s'.length = s.length ∧ (∀ i, i ≠ b → podAtN s' i = podAtN s i) ∧ (podAtN s' b).f0 = (podAtN s b).f0 ∧
      (∀ it ∈ its, av (podAtN s' b) it.f0 = av (podAtN s b) it.f0 - (if 0 < tak (podAtN s b) it then tak (podAtN s b) it else 0)) ∧ (∀ k : Int, (∀ it ∈ its, it.f0 ≠ k) → av (podAtN s' b) k = av (podAtN s b) k)
  | [], s, h, hb, _ => ⟨s, rfl, h, rfl, fun _ _ => rfl, rfl, fun _ h => by simp at h, fun _ _ => rfl⟩
  | it :: t, s, h, hb, hl => by
    have hx := hl.num it List.mem_cons_self
    have hlt := (List.pairwise_cons.1 hl.ord).1
    by_cases c : 0 < tak (podAtN s b) it
    · have hle : tak (podAtN s b) it ≤ av (podAtN s b) it.f0 := by unfold tak; split <;> omega
      obtain ⟨p, e1, e2, e3, e4⟩ := hold_one h hb (sku := it.f0) (n := tak (podAtN s b) it) ⟨hx.1, hx.2.1⟩ (by omega) hle
      have ep : podAtN (s.set b p) b = p := by rw [podAtN_set hb, if_pos rfl]
      obtain ⟨s', g1, g2, g3, g4, g5, g6, g7⟩ := hold_all s0 b t (s.set b p) e2 (by rw [List.length_set]; exact hb) hl.tail
      rw [ep] at g1 g5 g6 g7
      have hs := could_same (p := p) (q := podAtN s b) e3 (l := t) (fun x hx => by rw [e4, if_neg (show ¬ x.f0 = it.f0 by have := hlt x hx; omega)])
      have et : ∀ x ∈ t, tak p x = tak (podAtN s b) x := fun x hx => by unfold tak; rw [e4, if_neg (show ¬ x.f0 = it.f0 by have := hlt x hx; omega)]
      refine ⟨s', ?_, g2, by rw [g3, List.length_set], fun i hi => ?_, by rw [g5, e3], fun x hx => ?_, fun k hk => ?_⟩
      · rw [couldL, if_pos c, eachOf]
        have eo : opOf 1 s (podAtN s b).f0 it.f0 (tak (podAtN s b) it) = (s.set b p, 0) := by unfold opOf; rw [if_pos rfl]; exact e1
        simp only [eo]
        rw [if_pos trivial, ← hs.1]
        exact g1
      · rw [g4 i hi, podAtN_set hb, if_neg hi]
      · rcases List.mem_cons.1 hx with rfl | hx
        · rw [g7 x.f0 (fun y hy => by have := hlt y hy; omega), e4, if_pos rfl, if_pos c]
        · rw [g6 x hx, e4, if_neg (show ¬ x.f0 = it.f0 by have := hlt x hx; omega), et x hx]
      · rw [g7 k (fun y hy => hk y (List.mem_cons_of_mem _ hy)), e4, if_neg (fun e => hk it List.mem_cons_self e.symm)]
    · obtain ⟨s', g1, g2, g3, g4, g5, g6, g7⟩ := hold_all s0 b t s h hb hl.tail
      refine ⟨s', ?_, g2, g3, g4, g5, fun x hx => ?_, fun k hk => g7 k (fun y hy => hk y (List.mem_cons_of_mem _ hy))⟩
      · rw [couldL, if_neg c]; exact g1
      · rcases List.mem_cons.1 hx with rfl | hx
        · rw [g7 x.f0 (fun y hy => by have := hlt y hy; omega), if_neg c]; omega
        · exact g6 x hx

/-! #### PickLess -/
/-! What is left of the items when the picks are taken off. -/
def offOf (p : S79) (it : S48) : Int := if 0 < tak p it then tak p it else 0
def dec (p : S79) (it : S48) : S48 := ⟨it.f0, it.f1 - offOf p it⟩
def nz (l : List S48) : List S48 := l.filter (fun it => decide (0 < it.f1))
theorem off_bounds {p : S79} {it : S48} (h : 0 ≤ it.f1) : 0 ≤ offOf p it ∧ offOf p it ≤ it.f1 := by
  unfold offOf tak
  split <;> split at * <;> omega
theorem Left.nz {l : List S48} (h : Left l) : Left (nz l) := by
  have hs : (Pure.nz l).Sublist l := List.filter_sublist
  exact ⟨by have := hs.length_le; have := h.len; omega, fun x hx => h.num x (hs.subset hx), h.ord.sublist hs⟩
theorem Left.dec {l : List S48} (p : S79) (h : Left l) : Left (l.map (dec p)) := by
  refine ⟨by rw [List.length_map]; exact h.len, fun x hx => ?_, ?_⟩
  · obtain ⟨y, hy, rfl⟩ := List.mem_map.1 hx
    have := h.num y hy
    have hb := off_bounds (p := p) this.2.2.1
    show 1 ≤ y.f0 ∧ y.f0 ≤ 50 ∧ 0 ≤ y.f1 - offOf p y ∧ y.f1 - offOf p y ≤ 1000
    omega
  · exact List.pairwise_map.2 (h.ord.imp (fun {a b} hab => hab))
theorem could_nz (p : S79) : ∀ {l : List S48}, Left l → couldL p (nz l) = couldL p l ∧ couldN p (nz l) = couldN p l
  | [], _ => ⟨rfl, rfl⟩
  | it :: t, h => by
    have ih := could_nz p h.tail
    have hn := h.num it List.mem_cons_self
    unfold nz at ih ⊢
    by_cases c : 0 < it.f1
    · rw [List.filter_cons_of_pos (by simpa using c)]
      unfold couldL couldN
      rw [ih.1, ih.2]
      exact ⟨rfl, rfl⟩
    · rw [List.filter_cons_of_neg (by simpa using c), ih.1, ih.2]
      have ht : ¬ 0 < tak p it := by unfold tak; split <;> omega
      exact ⟨by rw [show couldL p (it :: t) = couldL p t by rw [couldL, if_neg ht]], by rw [show couldN p (it :: t) = couldN p t by rw [couldN, if_neg ht]]⟩
theorem nz_dec (p : S79) : ∀ {l : List S48}, Left l → nz ((nz l).map (dec p)) = nz (l.map (dec p))
  | [], _ => rfl
  | it :: t, h => by
    have ih := nz_dec p h.tail
    have hn := h.num it List.mem_cons_self
    have hb := off_bounds (p := p) hn.2.2.1
    unfold nz at ih ⊢
    by_cases c : 0 < it.f1
    · rw [List.filter_cons_of_pos (by simpa using c), List.map_cons, List.map_cons, List.filter_cons, List.filter_cons, ih]
    · rw [List.filter_cons_of_neg (by simpa using c), ih, List.map_cons, List.filter_cons_of_neg (by show ¬ decide (0 < it.f1 - offOf p it) = true; simp; omega)]
/-- All that the picks take of a kind. -/
def same : List S50 → Int → Int
  | [], _ => 0
  | q :: t, k => (if q.f1 = k then q.f2 else 0) + same t k
theorem same_none (p : S79) (k : Int) : ∀ {l : List S48}, (∀ x ∈ l, x.f0 ≠ k) → same (couldL p l) k = 0
  | [], _ => rfl
  | it :: t, h => by
    have ih := same_none p k (l := t) (fun x hx => h x (List.mem_cons_of_mem _ hx))
    unfold couldL
    split
    · rw [same, if_neg (h it List.mem_cons_self), ih]; rfl
    · exact ih
theorem same_off (p : S79) : ∀ {l : List S48}, Left l → ∀ it ∈ l, same (couldL p l) it.f0 = offOf p it
  | [], _, _, h => by simp at h
  | x :: t, h, it, hit => by
    have hlt := (List.pairwise_cons.1 h.ord).1
    rcases List.mem_cons.1 hit with rfl | hit
    · have h0 := same_none p it.f0 (l := t) (fun y hy => by have := hlt y hy; omega)
      unfold couldL offOf
      split
      · rw [same, if_pos rfl, h0]; exact Int.add_zero _
      · exact h0
    · have ih := same_off p h.tail it hit
      have hne : ¬ x.f0 = it.f0 := by have := hlt it hit; omega
      unfold couldL
      split
      · rw [same, if_neg hne, ih]; omega
      · exact ih
structure PicksOk (ps : List S50) : Prop where
  len : ps.length ≤ 6
  num : ∀ q ∈ ps, 1 ≤ q.f2 ∧ q.f2 ≤ 1000
theorem couldL_ok (p : S79) {l : List S48} (h : Left l) : PicksOk (couldL p l) := by
  refine ⟨by have := couldL_len p l; have := h.len; omega, fun q hq => ?_⟩
  have key : ∀ {l : List S48}, Left l → ∀ q ∈ couldL p l, 1 ≤ q.f2 ∧ q.f2 ≤ 1000 := by
    intro l
    induction l with
    | nil => intro _ q hq; simp [couldL] at hq
    | cons it t ih =>
      intro h q hq
      have hn := h.num it List.mem_cons_self
      unfold couldL at hq
      split at hq
      · rcases List.mem_cons.1 hq with rfl | hq
        · have : tak p it ≤ it.f1 := by unfold tak; split <;> omega
          show 1 ≤ tak p it ∧ tak p it ≤ 1000
          omega
        · exact ih h.tail q hq
      · exact ih h.tail q hq
  exact key h q hq
theorem rd_pick {l : List S50} {i : Nat} (hi : i < l.length) : rd_T50 l (i : Int) = l[i] := rd_struct_at hi
theorem impl_less_f (l : List S48) (hl : Left l) (ps : List S50) (hp : PicksOk ps) : Ev (fun k => impl_less.f k l ps) (nz (l.map (fun it => ⟨it.f0, it.f1 - same ps it.f0⟩))) := by
  have hp6 := hp.len
  have h6 := hl.len
  have inner : ∀ (i : Nat) (hi : i < l.length) (acc : List S48) (R : List S48), acc.length ≤ i →
      (∀ n : Int, n = l[i].f1 - same ps l[i].f0 → Ev (fun k => impl_less.l0 k ps (if 0 < n then acc ++ [⟨l[i].f0, n⟩] else acc) l (l.length : Int) ((i + 1 : Nat) : Int)) R) →
      ∀ (d j : Nat) (n : Int), j + d = ps.length → -1000 * (j : Int) ≤ n → n ≤ 1000 → n - same (ps.drop j) l[i].f0 = l[i].f1 - same ps l[i].f0 → Ev (fun k => impl_less.l1 k ps acc l (l.length : Int) i ps (ps.length : Int) j l[i].f0 n) R := by
    intro i hi acc R ha hR d
    induction d with
    | zero =>
      intro j n e h0 h1 hn
      rw [drop_end (by omega), same, Int.sub_zero] at hn
      have := hR n hn
      refine Ev.unroll ?_
      simp only [impl_less.l1, wrap_sc (show i < 9223372036854775807 by omega)]
      refine Ev.ifn (by omega) ?_
      by_cases c : 0 < n
      · rw [if_pos c] at this; exact Ev.ifp c (Ev.ifp (by omega) this)
      · rw [if_neg c] at this; exact Ev.ifn c this
    | succ d ih =>
      intro j n e h0 h1 hn
      have hj : j < ps.length := by omega
      have hq := hp.num ps[j] (List.getElem_mem hj)
      rw [drop_cons hj, same] at hn
      refine Ev.unroll ?_
      simp only [impl_less.l1, rd_pick hj, wrap_sc (show j < 9223372036854775807 by omega)]
      refine Ev.ifp (by omega) (Ev.ifp (by omega) (Ev.ifp (by omega) ?_))
      by_cases c : ps[j].f1 = l[i].f0
      · rw [if_pos c] at hn
        rw [wrap_id (x := n - ps[j].f2) (by omega) (by omega)]
        exact Ev.ifp c (ih (j + 1) (n - ps[j].f2) (by omega) (by omega) (by omega) (by omega))
      · rw [if_neg c] at hn
        exact Ev.ifn c (ih (j + 1) n (by omega) (by omega) (by omega) (by omega))
  have outer : ∀ (d i : Nat) (acc : List S48), i + d = l.length → acc.length ≤ i → Ev (fun k => impl_less.l0 k ps acc l (l.length : Int) i) (acc ++ nz ((l.drop i).map (fun it => ⟨it.f0, it.f1 - same ps it.f0⟩))) := by
    intro d
    induction d with
    | zero =>
      intro i acc e ha
      refine Ev.unroll ?_
      simp only [impl_less.l0]
      rw [drop_end (by omega)]
      exact Ev.ifn (by omega) (Ev.fin (by simp [nz]))
    | succ d ih =>
      intro i acc e ha
      have hi : i < l.length := by omega
      have hn := hl.num l[i] (List.getElem_mem hi)
      refine Ev.unroll ?_
      simp only [impl_less.l0, rd_item hi]
      refine Ev.ifp (by omega) (Ev.ifp (by omega) (Ev.ifp (by omega) (inner i hi acc _ ha (fun n hn2 => ?_) ps.length 0 l[i].f1 (by omega) (by omega) (by omega) (by rw [List.drop_zero]))))
      rw [drop_cons hi, List.map_cons]
      subst hn2
      by_cases c : 0 < l[i].f1 - same ps l[i].f0
      · rw [if_pos c]
        have h3 := ih (i + 1) (acc ++ [⟨l[i].f0, l[i].f1 - same ps l[i].f0⟩]) (by omega) (by simp; omega)
        rw [List.append_assoc] at h3
        unfold nz at h3 ⊢
        rw [List.filter_cons_of_pos (by simpa using c)]
        exact h3
      · rw [if_neg c]
        have h3 := ih (i + 1) acc (by omega) (by omega)
        unfold nz at h3 ⊢
        rw [List.filter_cons_of_neg (by simpa using c)]
        exact h3
  have h := outer l.length 0 [] (by omega) (by simp)
  rw [List.drop_zero, List.nil_append] at h
  exact h

/-! #### ItemsOk -/
/-- What is asked of the item at a place. -/
def itemAt (xs : List S48) (j : Nat) : Bool :=
  inB (xs.getD j z48).f0 1 50 && inB (xs.getD j z48).f1 1 1000 && (j == 0 || decide ((xs.getD (j - 1) z48).f0 < (xs.getD j z48).f0))
theorem spec_ItemsOk_l0 (xs : List S48) (hn : xs.length ≤ 1048576) : ∀ (d i : Nat), i + d = xs.length → Ev (fun k => spec_ItemsOk.l0 k xs i) (allFrom xs.length i (itemAt xs) && decide (xs.length ≤ 6))
  | 0, i, h => Ev.unroll (by
      simp only [spec_ItemsOk.l0]
      simp only [if_neg (show ¬ (i : Int) < xs.length by omega)]
      exact Ev.fin (by rw [allFrom_end (by omega), Bool.true_and]; exact decide_eq_decide.2 (by omega)))
  | d + 1, i, h => Ev.unroll (by
      have hi : i < xs.length := by omega
      have ih := spec_ItemsOk_l0 xs hn d (i + 1) (by omega)
      simp only [spec_ItemsOk.l0, spec_l1In_f, some_bind]
      simp only [if_pos (show (i : Int) < xs.length by omega), if_pos (show (0 : Int) ≤ i by omega), wrap_succ hi (show _ ≤ BIG by unfold BIG; omega), rd_T48, Int.toNat_natCast]
      by_cases h1 : inB (xs.getD i z48).f0 1 50 = true
      · simp only [if_pos h1]
        by_cases h2 : inB (xs.getD i z48).f1 1 1000 = true
        · simp only [if_pos h2]
          by_cases h3 : 0 < i
          · simp only [if_pos (show (i : Int) > 0 by omega), wrap_pred hi h3 (show _ ≤ BIG by unfold BIG; omega), if_pos (show (0 : Int) ≤ ((i - 1 : Nat) : Int) by omega), if_pos (show ((i - 1 : Nat) : Int) < xs.length by omega), Int.toNat_natCast]
            by_cases h4 : (xs.getD (i - 1) z48).f0 ≥ (xs.getD i z48).f0
            · simp only [if_pos h4]
              exact Ev.fin (by rw [allFrom_no hi (by unfold itemAt; rw [decide_eq_false (show ¬ (xs.getD (i - 1) z48).f0 < (xs.getD i z48).f0 by omega)]; simp [show i ≠ 0 by omega])]; rfl)
            · simp only [if_neg h4]
              rw [allFrom_yes hi (by unfold itemAt; simp only [h1, h2, decide_eq_true (show (xs.getD (i - 1) z48).f0 < (xs.getD i z48).f0 by omega), Bool.or_true, Bool.and_true])]
              exact ih
          · simp only [if_neg (show ¬ (i : Int) > 0 by omega)]
            rw [allFrom_yes hi (by have e0 : i = 0 := (by omega); subst e0; unfold itemAt; rw [h1, h2]; rfl)]
            exact ih
        · simp only [if_neg h2]
          exact Ev.fin (by rw [allFrom_no hi (by rw [Bool.not_eq_true] at h2; unfold itemAt; rw [h2]; simp)]; rfl)
      · simp only [if_neg h1]
        exact Ev.fin (by rw [allFrom_no hi (by rw [Bool.not_eq_true] at h1; unfold itemAt; rw [h1]; simp)]; rfl))
def itemsOk (xs : List S48) : Bool := allFrom xs.length 0 (itemAt xs) && decide (xs.length ≤ 6)
theorem spec_ItemsOk_f (xs : List S48) (hn : xs.length ≤ 1048576) : Ev (fun k => spec_ItemsOk.f k xs) (itemsOk xs) := spec_ItemsOk_l0 xs hn xs.length 0 (by omega)
theorem impl_ItemsOk_l0 (xs : List S48) (hn : xs.length ≤ 1048576) : ∀ (d i : Nat), i + d = xs.length → Ev (fun k => impl_ItemsOk.l0 k xs xs xs.length i) (allFrom xs.length i (itemAt xs) && decide (xs.length ≤ 6))
  | 0, i, h => Ev.unroll (by
      simp only [impl_ItemsOk.l0]
      simp only [if_neg (show ¬ (i : Int) < xs.length by omega)]
      exact Ev.fin (by rw [allFrom_end (by omega), Bool.true_and]; exact decide_eq_decide.2 (by omega)))
  | d + 1, i, h => Ev.unroll (by
      have hi : i < xs.length := by omega
      have ih := impl_ItemsOk_l0 xs hn d (i + 1) (by omega)
      simp only [impl_ItemsOk.l0, impl_in_f, some_bind]
      simp only [if_pos (show (i : Int) < xs.length by omega), if_pos (show (0 : Int) ≤ i by omega), wrap_succ hi (show _ ≤ BIG by unfold BIG; omega), rd_T48, Int.toNat_natCast]
      by_cases h1 : inB (xs.getD i z48).f0 1 50 = true
      · simp only [if_pos h1]
        by_cases h2 : inB (xs.getD i z48).f1 1 1000 = true
        · simp only [if_pos h2]
          by_cases h3 : 0 < i
          · simp only [if_pos (show (i : Int) > 0 by omega), wrap_pred hi h3 (show _ ≤ BIG by unfold BIG; omega), if_pos (show (0 : Int) ≤ ((i - 1 : Nat) : Int) by omega), if_pos (show ((i - 1 : Nat) : Int) < xs.length by omega), Int.toNat_natCast]
            by_cases h4 : (xs.getD (i - 1) z48).f0 ≥ (xs.getD i z48).f0
            · simp only [if_pos h4]
              exact Ev.fin (by rw [allFrom_no hi (by unfold itemAt; rw [decide_eq_false (show ¬ (xs.getD (i - 1) z48).f0 < (xs.getD i z48).f0 by omega)]; simp [show i ≠ 0 by omega])]; rfl)
            · simp only [if_neg h4]
              rw [allFrom_yes hi (by unfold itemAt; simp only [h1, h2, decide_eq_true (show (xs.getD (i - 1) z48).f0 < (xs.getD i z48).f0 by omega), Bool.or_true, Bool.and_true])]
              exact ih
          · simp only [if_neg (show ¬ (i : Int) > 0 by omega)]
            rw [allFrom_yes hi (by have e0 : i = 0 := (by omega); subst e0; unfold itemAt; rw [h1, h2]; rfl)]
            exact ih
        · simp only [if_neg h2]
          exact Ev.fin (by rw [allFrom_no hi (by rw [Bool.not_eq_true] at h2; unfold itemAt; rw [h2]; simp)]; rfl)
      · simp only [if_neg h1]
        exact Ev.fin (by rw [allFrom_no hi (by rw [Bool.not_eq_true] at h1; unfold itemAt; rw [h1]; simp)]; rfl))
theorem impl_ItemsOk_f (xs : List S48) (hn : xs.length ≤ 1048576) : Ev (fun k => impl_ItemsOk.f k xs) (itemsOk xs) := impl_ItemsOk_l0 xs hn xs.length 0 (by omega)

/-! #### PicksP -/
/-! The greedy picking, by the program (what it holds it takes off) and by the reference (pods used once). -/
def sumL : List S48 → Int
  | [] => 0
  | it :: t => it.f1 + sumL t
theorem sumL_facts : ∀ {l : List S48}, Left l → 0 ≤ sumL l ∧ sumL l ≤ 1000 * (l.length : Int) ∧ (sumL l = 0 ↔ nz l = [])
  | [], _ => by simp [sumL, nz]
  | it :: t, h => by
    have ih := sumL_facts h.tail
    have hn := h.num it List.mem_cons_self
    rw [show sumL (it :: t) = it.f1 + sumL t from rfl]
    unfold nz at ih ⊢
    by_cases c : 0 < it.f1
    · rw [List.filter_cons_of_pos (by simpa using c)]
      refine ⟨by omega, by simp only [List.length_cons]; omega, ⟨fun h => by omega, fun h => by cases h⟩⟩
    · rw [List.filter_cons_of_neg (by simpa using c)]
      refine ⟨by omega, by simp only [List.length_cons]; omega, ?_⟩
      rw [← ih.2.2]
      constructor <;> intro h <;> omega
/-- The program's stock and the reference's marks go together. -/
structure Pair (s s' : List S79) (used : List Bool) (left : List S48) : Prop where
  ok : stockOk s = true
  ok' : stockOk s' = true
  len : s'.length = s.length
  ulen : used.length = s.length
  lft : Left left
  free : ∀ i : Nat, i < s.length → used.getD i false = false → podAtN s' i = podAtN s i
  done : ∀ i : Nat, i < s.length → used.getD i false = true → couldN (podAtN s' i) left = 0
/-- Nothing is taken where nothing could be: and less is left then, not more. -/
theorem couldN_zero {p : S79} : ∀ {l : List S48}, Left l → (couldN p l = 0 ↔ ∀ it ∈ l, ¬ 0 < tak p it)
  | [], _ => by simp [couldN]
  | it :: t, h => by
    have ih := couldN_zero (p := p) h.tail
    have hb := couldN_bounds (p := p) h.tail
    unfold couldN
    by_cases c : 0 < tak p it
    · rw [if_pos c]
      constructor
      · intro h; omega
      · intro h; exact absurd c (h it List.mem_cons_self)
    · rw [if_neg c, ih]
      constructor
      · intro h x hx
        rcases List.mem_cons.1 hx with rfl | hx
        · exact c
        · exact h x hx
      · intro h x hx; exact h x (List.mem_cons_of_mem _ hx)
theorem couldN_less {p q : S79} {l : List S48} (h : Left l) (h0 : couldN p l = 0) : couldN p (l.map (dec q)) = 0 := by
  rw [couldN_zero (h.dec q)]
  intro x hx
  obtain ⟨y, hy, rfl⟩ := List.mem_map.1 hx
  have h1 := (couldN_zero h).1 h0 y hy
  have hb := off_bounds (p := q) (h.num y hy).2.2.1
  unfold tak at h1 ⊢
  show ¬ 0 < (if av p y.f0 < y.f1 - offOf q y then av p y.f0 else y.f1 - offOf q y)
  split <;> split at h1 <;> omega
theorem couldN_held {p p' : S79} {l : List S48} (h : Left l) (ha : ∀ it ∈ l, av p' it.f0 = av p it.f0 - offOf p it) : couldN p' (l.map (dec p)) = 0 := by
  rw [couldN_zero (h.dec p)]
  intro x hx
  obtain ⟨y, hy, rfl⟩ := List.mem_map.1 hx
  have h1 := ha y hy
  unfold tak
  show ¬ 0 < (if av p' y.f0 < y.f1 - offOf p y then av p' y.f0 else y.f1 - offOf p y)
  rw [h1]
  unfold offOf tak
  split <;> split <;> (try split) <;> (try split) <;> omega
theorem Pair.step {s s' s2 : List S79} {used : List Bool} {left : List S48} (P : Pair s s' used left) {b : Nat} (hb : b < s.length) (hu : used.getD b false = false)
    (g2 : stockOk s2 = true) (g3 : s2.length = s'.length) (g4 : ∀ i, i ≠ b → podAtN s2 i = podAtN s' i) (g6 : ∀ it ∈ left, av (podAtN s2 b) it.f0 = av (podAtN s b) it.f0 - offOf (podAtN s b) it) : Pair s s2 (used.set b true) (left.map (dec (podAtN s b))) := by
  have us : ∀ i : Nat, (used.set b true).getD i false = if i = b then true else used.getD i false := fun i => by
    have := P.ulen
    rw [List.getD_eq_getElem?_getD, List.getElem?_set, List.getD_eq_getElem?_getD]
    by_cases e : i = b
    · subst e; simp [this, hb]
    · rw [if_neg (fun h => e h.symm), if_neg e]
  refine ⟨P.ok, g2, by rw [g3, P.len], by rw [List.length_set]; exact P.ulen, P.lft.dec _, fun i hi h => ?_, fun i hi h => ?_⟩
  · rw [us] at h
    by_cases e : i = b
    · rw [if_pos e] at h; cases h
    · rw [if_neg e] at h; rw [g4 i e]; exact P.free i hi h
  · rw [us] at h
    by_cases e : i = b
    · subst e; exact couldN_held P.lft g6
    · rw [if_neg e] at h; rw [g4 i e]; exact couldN_less P.lft (P.done i hi h)
/-- The pod that is found so far. -/
structure Best (s : List S79) (used : List Bool) (left : List S48) (i : Nat) (B M : Int) (L : List S50) : Prop where
  case : (B = -1 ∧ M = 0 ∧ L = []) ∨ ∃ j : Nat, j < i ∧ B = (j : Int) ∧ used.getD j false = false ∧ L = couldL (podAtN s j) left ∧ M = couldN (podAtN s j) left ∧ 0 < M
theorem best_l (s s' : List S79) (used : List Bool) (left : List S48) (acc none : List S50) (P : Pair s s' used left)
    (K : ∀ (B M : Int) (L : List S50), Best s used left s.length B M L → ∃ R : List S50 × Bool, Ev (fun k => spec_Picks.l2 k none left used acc B M s.length s) R ∧ Ev (fun k => impl_Picks.l1 k acc (nz left) L M s' (s'.length : Int) s.length s') R ∧ R.1.length ≤ 1000) :
    ∀ (d i : Nat) (B M : Int) (L : List S50), i + d = s.length → Best s used left i B M L → ∃ R : List S50 × Bool, Ev (fun k => spec_Picks.l2 k none left used acc B M i s) R ∧ Ev (fun k => impl_Picks.l1 k acc (nz left) L M s' (s'.length : Int) i s') R ∧ R.1.length ≤ 1000
  | 0, i, B, M, L, e, hb => by
      obtain rfl : i = s.length := by omega
      exact K B M L hb
  | d + 1, i, B, M, L, e, hb => by
      have hi : i < s.length := by omega
      have h12 := (stock_pods P.ok).1
      have hpf := (stock_pods P.ok).2 i hi
      have hpf' := (stock_pods P.ok').2 i (by rw [P.len]; exact hi)
      have hs := spec_l6Could_f (podAtN s i) left P.lft hpf.stacks hpf.len
      have hs' := impl_could_f (podAtN s' i) (nz left) P.lft.nz hpf'.stacks hpf'.len
      have hz := could_nz (podAtN s' i) P.lft
      rw [hz.1, hz.2] at hs'
      have hlen := P.len
      have hul := P.ulen
      have hM : 0 ≤ M := by rcases hb.case with ⟨_, h, _⟩ | ⟨j, _, _, _, _, _, h⟩ <;> omega
      have er : rdOf false used (i : Int) = used.getD i false := by unfold rdOf; rw [Int.toNat_natCast]
      have keep : Best s used left (i + 1) B M L := ⟨by
        rcases hb.case with h | ⟨j, h1, h2⟩
        · exact .inl h
        · exact .inr ⟨j, by omega, h2⟩⟩
      have stay := best_l s s' used left acc none P K d (i + 1) B M L (by omega) keep
      by_cases hu : used.getD i false = true
      · have h0 := P.done i hi hu
        obtain ⟨R, e1, e2, e3⟩ := stay
        refine ⟨R, Ev.unroll ?_, Ev.unroll ?_, e3⟩
        · simp only [spec_Picks.l2, rd_pod, er, wrap_sc (show i < 9223372036854775807 by omega)]
          exact Ev.ifp (by omega) (Ev.ifp (by omega) (Ev.bind hs (Ev.ifp (by omega) (Ev.ifp hu e1))))
        · simp only [impl_Picks.l1, rd_pod, wrap_sc (show i < 9223372036854775807 by omega)]
          exact Ev.ifp (by omega) (Ev.ifp (by omega) (Ev.ifp (by omega) (Ev.bind hs' (Ev.ifn (by dsimp only; omega) e2))))
      · have hu' : used.getD i false = false := by simpa using hu
        rw [P.free i hi hu'] at hs'
        by_cases c : couldN (podAtN s i) left > M
        · obtain ⟨R, e1, e2, e3⟩ := best_l s s' used left acc none P K d (i + 1) (i : Int) (couldN (podAtN s i) left) (couldL (podAtN s i) left) (by omega) ⟨.inr ⟨i, by omega, rfl, hu', rfl, rfl, by omega⟩⟩
          refine ⟨R, Ev.unroll ?_, Ev.unroll ?_, e3⟩
          · simp only [spec_Picks.l2, rd_pod, er, wrap_sc (show i < 9223372036854775807 by omega)]
            exact Ev.ifp (by omega) (Ev.ifp (by omega) (Ev.bind hs (Ev.ifp (by omega) (Ev.ifn hu (Ev.ifp c e1)))))
          · simp only [impl_Picks.l1, rd_pod, P.free i hi hu', wrap_sc (show i < 9223372036854775807 by omega)]
            exact Ev.ifp (by omega) (Ev.ifp (by omega) (Ev.ifp (by omega) (Ev.bind hs' (Ev.ifp c e2))))
        · obtain ⟨R, e1, e2, e3⟩ := stay
          refine ⟨R, Ev.unroll ?_, Ev.unroll ?_, e3⟩
          · simp only [spec_Picks.l2, rd_pod, er, wrap_sc (show i < 9223372036854775807 by omega)]
            exact Ev.ifp (by omega) (Ev.ifp (by omega) (Ev.bind hs (Ev.ifp (by omega) (Ev.ifn hu (Ev.ifn c e1)))))
          · simp only [impl_Picks.l1, rd_pod, P.free i hi hu', wrap_sc (show i < 9223372036854775807 by omega)]
            exact Ev.ifp (by omega) (Ev.ifp (by omega) (Ev.ifp (by omega) (Ev.bind hs' (Ev.ifn c e2))))

/-! #### HoldAllP -/
theorem impl_eachHold_l0 (s : List S79) (hs : BigS s) (p : List S50) (hp : p.length ≤ 1048576) : ∀ (d i : Nat) (out : List S79), i + d = p.length → BigS out → Ev (fun k => impl_eachHold.l0 k s p i out) (eachOf (opOf 1) s (p.drop i) out)
  | 0, i, out, e, h => Ev.unroll (by
      simp only [impl_eachHold.l0]
      rw [drop_end (by omega)]
      exact Ev.ifn (by omega) (Ev.now _))
  | d + 1, i, out, e, h => by
      have hi : i < p.length := by omega
      have er : rd_T50 p i = p[i] := rd_struct_at hi
      have ih := impl_eachHold_l0 s hs p hp d (i + 1) (opOf 1 out p[i].f0 p[i].f1 p[i].f2).1 (by omega) (opOf_big 1 out _ _ _ h)
      refine Ev.unroll ?_
      simp only [impl_eachHold.l0, er, wrap_sc (show i < 9223372036854775807 by omega)]
      rw [drop_cons hi, eachOf]
      have e1 : opOf 1 out p[i].f0 p[i].f1 p[i].f2 = heldOf out p[i].f0 p[i].f1 p[i].f2 p[i].f2 := by unfold opOf; rw [if_pos rfl]
      rw [e1] at ih ⊢
      refine Ev.ifp (by omega) (Ev.ifp (by omega) (Ev.bind (impl_Hold_f out _ _ _ h.1 h.2) ?_))
      by_cases h0 : (heldOf out p[i].f0 p[i].f1 p[i].f2 p[i].f2).2 = 0
      · rw [if_pos h0]; exact Ev.ifp h0 ih
      · rw [if_neg h0]; exact Ev.ifn h0 (Ev.bind (impl_copyStock_f s hs.1 hs.2) (Ev.now _))
theorem impl_HoldAll_f (s : List S79) (hs : BigS s) (p : List S50) (hp : p.length ≤ 1048576) : Ev (fun k => impl_HoldAll.f k s p) (eachOf (opOf 1) s p s) := by
  unfold impl_HoldAll.f impl_eachHold.f
  exact Ev.bind (impl_copyStock_f s hs.1 hs.2) (impl_eachHold_l0 s hs p hp p.length 0 s (by omega) hs)
/-! #### PicksQ -/
def sub (q : S50) (it : S48) : S48 := if it.f0 = q.f1 then ⟨it.f0, it.f1 - q.f2⟩ else it
theorem spec_Picks_l4 (s : List S79) (used : List Bool) (acc none ps : List S50) (j : Nat) (hj : j < ps.length) (hq : 1 ≤ ps[j].f2 ∧ ps[j].f2 ≤ 1000) (hps : ps.length ≤ 6) (xs : List S48) (hl : xs.length ≤ 6) (hx : ∀ x ∈ xs, -10000 ≤ x.f1 ∧ x.f1 ≤ 1000) (R : List S50 × Bool)
    (hR : Ev (fun k => spec_Picks.l3 k none (xs.map (sub ps[j])) used acc ps ((j + 1 : Nat) : Int) s) R) : ∀ (d i : Nat), i + d = xs.length → Ev (fun k => spec_Picks.l4 k none ((xs.take i).map (sub ps[j]) ++ xs.drop i) used acc ps j i s) R
  | 0, i, e => by
      refine Ev.unroll ?_
      simp only [spec_Picks.l4, wrap_sc (show j < 9223372036854775807 by omega)]
      rw [drop_end (by omega), List.append_nil, List.take_of_length_le (by omega)]
      exact Ev.ifn (by rw [List.length_map]; omega) hR
  | d + 1, i, e => by
      have hi : i < xs.length := by omega
      have hb := hx xs[i] (List.getElem_mem hi)
      have ih := spec_Picks_l4 s used acc none ps j hj hq hps xs hl hx R hR d (i + 1) (by omega)
      rw [List.take_succ_eq_append_getElem hi, List.map_append, List.append_assoc] at ih
      rw [drop_cons hi]
      have hyl : ((xs.take i).map (sub ps[j])).length = i := by rw [List.length_map, List.length_take]; omega
      generalize (xs.take i).map (sub ps[j]) = ys at ih hyl ⊢
      have er : rd_T48 (ys ++ xs[i] :: xs.drop (i + 1)) (i : Int) = xs[i] := by
        unfold rd_T48
        rw [Int.toNat_natCast]
        exact getD_mid _ _ _ _ _ hyl.symm
      refine Ev.unroll ?_
      simp only [spec_Picks.l4, er, rd_pick hj, wrap_sc (show i < 9223372036854775807 by omega), Int.toNat_natCast]
      refine Ev.ifp (by simp only [List.length_append, List.length_cons]; omega) (Ev.ifp (by omega) (Ev.ifp (by omega) (Ev.ifp (by omega) ?_)))
      by_cases c : xs[i].f0 = ps[j].f1
      · rw [wrap_id (x := xs[i].f1 - ps[j].f2) (by omega) (by omega)]
        refine Ev.ifp c ?_
        rw [List.set_append_right _ _ (by omega), hyl, Nat.sub_self, List.set_cons_zero]
        simp only [List.map_cons, List.map_nil, List.cons_append, List.nil_append] at ih
        rw [show sub ps[j] xs[i] = ⟨xs[i].f0, xs[i].f1 - ps[j].f2⟩ by unfold sub; rw [if_pos c]] at ih
        exact ih
      · refine Ev.ifn c ?_
        simp only [List.map_cons, List.map_nil, List.cons_append, List.nil_append] at ih
        rw [show sub ps[j] xs[i] = xs[i] by unfold sub; rw [if_neg c]] at ih
        exact ih
theorem sub_same (q : S50) (t : List S50) (xs : List S48) : (xs.map (sub q)).map (fun it => (⟨it.f0, it.f1 - same t it.f0⟩ : S48)) = xs.map (fun it => ⟨it.f0, it.f1 - same (q :: t) it.f0⟩) := by
  rw [List.map_map]
  refine List.map_congr_left fun it _ => ?_
  show (⟨(sub q it).f0, (sub q it).f1 - same t (sub q it).f0⟩ : S48) = _
  rw [same]
  unfold sub
  by_cases c : it.f0 = q.f1
  · rw [if_pos c, if_pos c.symm]
    show (⟨it.f0, it.f1 - q.f2 - same t it.f0⟩ : S48) = _
    rw [Int.sub_sub]
  · rw [if_neg c, if_neg (fun h => c h.symm), Int.zero_add]
theorem spec_Picks_l3 (s : List S79) (used : List Bool) (acc none ps : List S50) (hp : PicksOk ps) (R : List S50 × Bool) : ∀ (d j : Nat) (xs : List S48), j + d = ps.length → xs.length ≤ 6 → (∀ x ∈ xs, -1000 * (j : Int) ≤ x.f1 ∧ x.f1 ≤ 1000) →
    Ev (fun k => spec_Picks.l0 k none (xs.map (fun it => ⟨it.f0, it.f1 - same (ps.drop j) it.f0⟩)) used acc s) R → Ev (fun k => spec_Picks.l3 k none xs used acc ps j s) R
  | 0, j, xs, e, hl, hx, hR => by
      rw [drop_end (by omega)] at hR
      have e1 : xs.map (fun it => (⟨it.f0, it.f1 - same [] it.f0⟩ : S48)) = xs := by
        conv => rhs; rw [← List.map_id xs]
        refine List.map_congr_left fun it _ => ?_
        show (⟨it.f0, it.f1 - 0⟩ : S48) = it
        rw [Int.sub_zero]
      rw [e1] at hR
      refine Ev.unroll ?_
      simp only [spec_Picks.l3]
      exact Ev.ifn (by omega) hR
  | d + 1, j, xs, e, hl, hx, hR => by
      have hj : j < ps.length := by omega
      have h6 := hp.len
      have hq := hp.num ps[j] (List.getElem_mem hj)
      rw [drop_cons hj, ← sub_same] at hR
      have ih := spec_Picks_l3 s used acc none ps hp R d (j + 1) (xs.map (sub ps[j])) (by omega) (by rw [List.length_map]; exact hl) (fun x hx2 => by
        obtain ⟨y, hy, rfl⟩ := List.mem_map.1 hx2
        have := hx y hy
        unfold sub
        split
        · show _ ≤ y.f1 - ps[j].f2 ∧ y.f1 - ps[j].f2 ≤ 1000; omega
        · omega) hR
      have h4 := spec_Picks_l4 s used acc none ps j hj hq h6 xs hl (fun x hx2 => by have := hx x hx2; omega) R ih xs.length 0 (by omega)
      rw [List.take_zero, List.map_nil, List.nil_append, List.drop_zero] at h4
      refine Ev.unroll ?_
      simp only [spec_Picks.l3]
      exact Ev.ifp (by omega) h4
theorem spec_Picks_l1 (s : List S79) (used : List Bool) (acc none : List S50) (left : List S48) (hl : Left left) (R : List S50 × Bool) (h0 : sumL left = 0 → R = (acc, true)) (h1 : sumL left ≠ 0 → Ev (fun k => spec_Picks.l2 k none left used acc (-1) 0 0 s) R) :
    ∀ (d i : Nat) (n : Int), i + d = left.length → 0 ≤ n → n ≤ 1000 * (i : Int) → n + sumL (left.drop i) = sumL left → Ev (fun k => spec_Picks.l1 k none left used acc n i s) R
  | 0, i, n, e, hn, hn2, hs => by
      rw [drop_end (by omega)] at hs
      have e2 : n = sumL left := by rw [← hs]; exact (Int.add_zero n).symm
      refine Ev.unroll ?_
      simp only [spec_Picks.l1]
      refine Ev.ifn (by omega) ?_
      by_cases c : n = 0
      · exact Ev.ifp c (Ev.fin (h0 (by omega)).symm)
      · exact Ev.ifn c (h1 (by omega))
  | d + 1, i, n, e, hn, hn2, hs => by
      have hi : i < left.length := by omega
      have h6 := hl.len
      have hb := hl.num left[i] (List.getElem_mem hi)
      rw [drop_cons hi, show sumL (left[i] :: left.drop (i + 1)) = left[i].f1 + sumL (left.drop (i + 1)) from rfl] at hs
      have ih := spec_Picks_l1 s used acc none left hl R h0 h1 d (i + 1) (n + left[i].f1) (by omega) (by omega) (by omega) (by omega)
      refine Ev.unroll ?_
      simp only [spec_Picks.l1, rd_item hi, wrap_sc (show i < 9223372036854775807 by omega), wrap_id (x := n + left[i].f1) (by omega) (by omega)]
      exact Ev.ifp (by omega) (Ev.ifp (by omega) ih)
def unusedN (used : List Bool) : Nat := used.countP (fun x => !x)
theorem unusedN_set {used : List Bool} {b : Nat} (hb : b < used.length) (h : used.getD b false = false) : unusedN (used.set b true) + 1 = unusedN used := by
  unfold unusedN
  rw [getD_at hb] at h
  have h4 : 0 < used.countP (fun x => !x) := List.countP_pos_iff.2 ⟨used[b], List.getElem_mem hb, by rw [h]; rfl⟩
  rw [List.countP_set hb, h]
  simp
  omega
theorem less_dec (p : S79) {left : List S48} (hl : Left left) : nz ((nz left).map (fun it => (⟨it.f0, it.f1 - same (couldL p left) it.f0⟩ : S48))) = nz (left.map (dec p)) := by
  rw [← nz_dec p hl]
  congr 1
  refine List.map_congr_left fun it hit => ?_
  show (⟨it.f0, it.f1 - same (couldL p left) it.f0⟩ : S48) = ⟨it.f0, it.f1 - offOf p it⟩
  rw [← (could_nz p hl).1, same_off p hl.nz it hit]
theorem picks_round (s : List S79) (m : Nat) (IH : ∀ m' : Nat, m' + 1 = m → ∀ (s' : List S79) (used : List Bool) (left : List S48) (acc : List S50), unusedN used = m' → Pair s s' used left → acc.length + 6 * m' ≤ 100 →
    ∃ R : List S50 × Bool, Ev (fun k => spec_Picks.l0 k [] left used acc s) R ∧ Ev (fun k => impl_Picks.l0 k acc (nz left) s') R ∧ R.1.length ≤ 1000)
    (s' : List S79) (used : List Bool) (left : List S48) (acc : List S50) (hm : unusedN used = m) (P : Pair s s' used left) (ha : acc.length + 6 * m ≤ 100) :
    ∃ R : List S50 × Bool, Ev (fun k => spec_Picks.l0 k [] left used acc s) R ∧ Ev (fun k => impl_Picks.l0 k acc (nz left) s') R ∧ R.1.length ≤ 1000 := by
  have hsum := sumL_facts P.lft
  have hlen := P.len
  have hul := P.ulen
  have h12 := (stock_pods P.ok).1
  by_cases c : sumL left = 0
  · refine ⟨(acc, true), Ev.unroll ?_, Ev.unroll ?_, by show acc.length ≤ 1000; omega⟩
    · simp only [spec_Picks.l0]
      exact spec_Picks_l1 s used acc [] left P.lft _ (fun _ => rfl) (fun h => absurd c h) left.length 0 0 (by omega) (by omega) (by omega) (by rw [List.drop_zero]; omega)
    · simp only [impl_Picks.l0, hsum.2.2.1 c]
      exact Ev.ifn (by simp) (Ev.now _)
  · have hne : 0 < (nz left).length := by
      rcases Nat.eq_zero_or_pos (nz left).length with h | h
      · exact absurd (hsum.2.2.2 (List.length_eq_zero_iff.1 h)) c
      · exact h
    obtain ⟨R, e1, e2, e3⟩ := best_l s s' used left acc [] P (fun B M L hb => by
      rcases hb.case with ⟨rfl, rfl, rfl⟩ | ⟨j, hj, rfl, hu, rfl, rfl, hM⟩
      · refine ⟨([], false), Ev.unroll ?_, Ev.unroll ?_, by simp⟩
        · simp only [spec_Picks.l2]
          exact Ev.ifn (by omega) (Ev.ifp (by omega) (Ev.now _))
        · simp only [impl_Picks.l1]
          exact Ev.ifn (by omega) (Ev.ifp trivial (Ev.now _))
      · have hpf := (stock_pods P.ok).2 j hj
        have hcl := couldL_ok (podAtN s j) P.lft
        have hcl6 := hcl.len
        have ej := P.free j hj hu
        obtain ⟨s2, g1, g2, g3, g4, g5, g6, g7⟩ := hold_all s' j left s' P.ok' (by omega) P.lft
        rw [ej] at g1 g6
        have P2 := P.step hj hu g2 g3 g4 g6
        have hmu := unusedN_set (used := used) (b := j) (by omega) hu
        obtain ⟨R, r1, r2, r3⟩ := IH (unusedN (used.set j true)) (by omega) s2 (used.set j true) (left.map (dec (podAtN s j))) (acc ++ couldL (podAtN s j) left) rfl P2 (by rw [List.length_append]; omega)
        have hbig : BigS s' := ⟨(pods_len P.ok').1, (pods_len P.ok').2⟩
        have hH := impl_HoldAll_f s' hbig (couldL (podAtN s j) left) (by omega)
        rw [g1] at hH
        have hL := impl_less_f (nz left) P.lft.nz (couldL (podAtN s j) left) hcl
        rw [less_dec (podAtN s j) P.lft] at hL
        have hc := spec_l6Could_f (podAtN s j) left P.lft hpf.stacks hpf.len
        refine ⟨R, Ev.unroll ?_, Ev.unroll ?_, r3⟩
        · simp only [spec_Picks.l2, rd_pod, Int.toNat_natCast]
          refine Ev.ifn (by omega) (Ev.ifn (by omega) (Ev.ifp (by omega) (Ev.ifp (by omega) (Ev.ifp (by omega) (Ev.bind hc (Ev.ifp (by dsimp only; omega) ?_))))))
          refine spec_Picks_l3 s (used.set j true) _ [] _ hcl R (couldL (podAtN s j) left).length 0 left (by omega) P.lft.len (fun x hx => by have := P.lft.num x hx; omega) ?_
          rw [List.drop_zero]
          have em : left.map (fun it => (⟨it.f0, it.f1 - same (couldL (podAtN s j) left) it.f0⟩ : S48)) = left.map (dec (podAtN s j)) := List.map_congr_left fun it hit => by
            show (⟨it.f0, it.f1 - same (couldL (podAtN s j) left) it.f0⟩ : S48) = ⟨it.f0, it.f1 - offOf (podAtN s j) it⟩
            rw [same_off _ P.lft it hit]
          rw [em]
          exact r1
        · simp only [impl_Picks.l1]
          exact Ev.ifn (by omega) (Ev.ifn (by omega) (Ev.ifp (by omega) (Ev.bind hH (Ev.bind hL r2))))) s.length 0 (-1) 0 [] (by omega) ⟨.inl ⟨rfl, rfl, rfl⟩⟩
    refine ⟨R, Ev.unroll ?_, Ev.unroll ?_, e3⟩
    · simp only [spec_Picks.l0]
      exact spec_Picks_l1 s used acc [] left P.lft R (fun h => absurd h c) (fun _ => e1) left.length 0 0 (by omega) (by omega) (by omega) (by rw [List.drop_zero]; omega)
    · simp only [impl_Picks.l0]
      refine Ev.ifp (by omega) ?_
      rw [hlen]
      rw [hlen] at e2
      exact e2
theorem picks_rounds (s : List S79) : ∀ (m : Nat) (s' : List S79) (used : List Bool) (left : List S48) (acc : List S50), unusedN used = m → Pair s s' used left → acc.length + 6 * m ≤ 100 →
    ∃ R : List S50 × Bool, Ev (fun k => spec_Picks.l0 k [] left used acc s) R ∧ Ev (fun k => impl_Picks.l0 k acc (nz left) s') R ∧ R.1.length ≤ 1000 := by
  intro m
  induction m with
  | zero => exact picks_round s 0 (fun m' h => by omega)
  | succ m ih => exact picks_round s (m + 1) (fun m' h => (by obtain rfl : m' = m := (by omega); exact ih))

/-! #### PicksR -/
theorem items_left {l : List S48} (h : itemsOk l = true) : Left l ∧ nz l = l := by
  unfold itemsOk at h
  simp only [Bool.and_eq_true, decide_eq_true_eq, allFrom_iff] at h
  have hk : ∀ j, j < l.length → (1 ≤ (l.getD j z48).f0 ∧ (l.getD j z48).f0 ≤ 50 ∧ 1 ≤ (l.getD j z48).f1 ∧ (l.getD j z48).f1 ≤ 1000) ∧ (0 < j → (l.getD (j - 1) z48).f0 < (l.getD j z48).f0) := fun j hj => by
    have := h.1 j (by omega) hj
    unfold itemAt at this
    simp only [Bool.and_eq_true, Bool.or_eq_true, inB_iff, decide_eq_true_eq, beq_iff_eq] at this
    exact ⟨⟨this.1.1.1, this.1.1.2, this.1.2.1, this.1.2.2⟩, fun h0 => by rcases this.2 with h | h; omega; exact h⟩
  have step : ∀ (j i : Nat), i < j → j < l.length → (l.getD i z48).f0 < (l.getD j z48).f0 := by
    intro j
    induction j with
    | zero => intro i h; omega
    | succ j ih =>
      intro i h1 h2
      have h3 := (hk (j + 1) h2).2 (by omega)
      rw [Nat.add_sub_cancel] at h3
      by_cases e : i = j
      · subst e; exact h3
      · exact Int.lt_trans (ih i (by omega) (by omega)) h3
  have num : ∀ x ∈ l, 1 ≤ x.f0 ∧ x.f0 ≤ 50 ∧ 1 ≤ x.f1 ∧ x.f1 ≤ 1000 := fun x hx => by
    obtain ⟨j, hj, rfl⟩ := List.mem_iff_getElem.1 hx
    have := (hk j hj).1
    rwa [getD_at hj] at this
  refine ⟨⟨h.2, fun x hx => by have := num x hx; omega, List.pairwise_iff_getElem.2 fun i j hi hj hij => ?_⟩, ?_⟩
  · have := step j i hij hj
    rwa [getD_at hi, getD_at hj] at this
  · unfold nz
    rw [List.filter_eq_self]
    intro x hx
    have := num x hx
    simp; omega
theorem picks_f (s : List S79) (hn : s.length ≤ 4194304) (hx : ∀ x ∈ s, x.f2.length ≤ 4194304) (l : List S48) (hl : l.length ≤ 1048576) :
    ∃ R : List S50 × Bool, Ev (fun k => spec_Picks.f k s l) R ∧ Ev (fun k => impl_Picks.f k s l) R ∧ R.1.length ≤ 1000 := by
  have s1 := spec_StockOk_f s hn hx
  have s2 := impl_StockOk_f s hn hx
  have i1 := spec_ItemsOk_f l hl
  have i2 := impl_ItemsOk_f l hl
  have bad1 : Ev (fun k => spec_Picks.j0 k l [] true s) (([], false) : List S50 × Bool) := Ev.unroll (by
    simp only [spec_Picks.j0]; exact Ev.ifp trivial (Ev.now _))
  have bad2 : Ev (fun k => impl_Picks.j0 k l true s) (([], false) : List S50 × Bool) := Ev.unroll (by
    simp only [impl_Picks.j0]; exact Ev.ifp trivial (Ev.now _))
  unfold spec_Picks.f impl_Picks.f
  simp only [some_bind]
  by_cases hs : stockOk s = true
  · by_cases hi : itemsOk l = true
    · obtain ⟨hL, hz⟩ := items_left hi
      have h12 := (stock_pods hs).1
      have h6 := hL.len
      have hP : Pair s s (List.replicate s.length false) l := ⟨hs, hs, rfl, by simp, hL, fun _ _ _ => rfl, fun i hi h => by
        rw [List.getD_eq_getElem?_getD, List.getElem?_replicate] at h
        split at h <;> cases h⟩
      have hm : unusedN (List.replicate s.length false) = s.length := by unfold unusedN; rw [List.countP_replicate]; rfl
      obtain ⟨R, e1, e2, e3⟩ := picks_rounds s s.length s (List.replicate s.length false) l [] hm hP (by simp; omega)
      rw [hz] at e2
      rw [hi] at i1 i2
      refine ⟨R, Ev.bind s1 (Ev.ifp hs (Ev.bind i1 (Ev.unroll ?_))), Ev.bind s2 (Ev.ifp hs (Ev.bind i2 (Ev.unroll ?_))), e3⟩
      · simp only [spec_Picks.j0, some_bind, List.nil_append, List.length_nil, Int.toNat_natCast]
        exact Ev.ifn (by simp) (Ev.ifp (by omega) (Ev.ifp (by omega) (Ev.ifp (by omega) e1)))
      · simp only [impl_Picks.j0, impl_copyItems.f, List.nil_append, List.length_nil, if_pos (show 0 + l.length < 8796093022208 by omega), some_bind]
        exact Ev.ifn (by simp) (Ev.bind (impl_copyStock_f s hn hx) e2)
    · have hi2 : itemsOk l = false := by simpa using hi
      rw [hi2] at i1 i2
      exact ⟨([], false), Ev.bind s1 (Ev.ifp hs (Ev.bind i1 bad1)), Ev.bind s2 (Ev.ifp hs (Ev.bind i2 bad2)), by simp⟩
  · exact ⟨([], false), Ev.bind s1 (Ev.ifn hs bad1), Ev.bind s2 (Ev.ifn hs bad2), by simp⟩

/-! #### FnExactPicks -/
theorem FnExactPicks : ∀ (l0_0 : List (S117)) (l1 : List (S108)), (l0_0.length ≤ 9223372036854775807 ∧ ∀ y0 ∈ l0_0, ((-9223372036854775808 ≤ y0.f0 ∧ y0.f0 ≤ 9223372036854775807) ∧ (-9223372036854775808 ≤ y0.f1 ∧ y0.f1 ≤ 9223372036854775807) ∧ (y0.f2.length ≤ 9223372036854775807 ∧ ∀ y1 ∈ y0.f2, ((-9223372036854775808 ≤ y1.f0 ∧ y1.f0 ≤ 9223372036854775807) ∧ (-9223372036854775808 ≤ y1.f1 ∧ y1.f1 ≤ 9223372036854775807) ∧ (-9223372036854775808 ≤ y1.f2 ∧ y1.f2 ≤ 9223372036854775807))))) → (l1.length ≤ 9223372036854775807 ∧ ∀ y0 ∈ l1, ((-9223372036854775808 ≤ y0.f0 ∧ y0.f0 ≤ 9223372036854775807) ∧ (-9223372036854775808 ≤ y0.f1 ∧ y0.f1 ≤ 9223372036854775807))) → ∃ k, laws_FnExactPicks.f k l0_0 l1 = some true := by
  intro l l1 hh hh1
  have hl := hh.1
  have hx : ∀ x ∈ l, x.f2.length ≤ 9223372036854775807 := fun x hx => (hh.2 x hx).2.2.1
  refine Ev.rounds ?_
  unfold laws_FnExactPicks.f
  obtain ⟨r, hr, hr2⟩ := szStock_n l hl hx
  refine Ev.bind hr ?_
  by_cases h0 : r < 0
  · exact Ev.ifp h0 (Ev.now _)
  · obtain ⟨h1, h2, h3⟩ := hr2 (by omega)
    refine Ev.ifn h0 ?_
    simp only [szItemS_n l1 r hh1.1 (show 0 ≤ r by omega) h3, some_bind]
    by_cases hb : (l1.length : Int) ≤ r
    · simp only [if_pos hb]
      have m := mkPod_small h1 h2
      have b := small_big m
      have hp : (l1.map mkItem).length ≤ 1048576 := by rw [List.length_map]; omega
      obtain ⟨R, hS, hI, hR⟩ := picks_f _ b.1 b.2 (l1.map mkItem) hp
      have he := endP_le (l.map mkPod) 1 b.2
      have hb1 := m.1
      obtain ⟨q, hq, hq1⟩ := markItemS_f (l1.map mkItem) (endP (l.map mkPod) 1) hp (by omega)
      have hmk := markPickK_f R.1 1 (by unfold BIG; omega)
      have hhd := heldPickK_f R.1.length 1 (by unfold BIG; omega)
      refine Ev.ifn (by omega) (Ev.bind (toStock_f l h1 h2) (Ev.bind (toItemS_f l1 (by omega)) (Ev.bind hS (Ev.bind hI (Ev.bind (eqPickS_f _ (by unfold BIG; omega)) (Ev.bind (eqStock_f _ b.1 b.2) (Ev.bind (eqItemS_f _ hp) (Ev.bind (markStock_f _ b.1 b.2) (Ev.bind hq (Ev.bind hmk (Ev.bind hhd ?_)))))))))))
      exact Ev.ifp ⟨rfl, rfl, rfl, rfl, by omega, by omega, rfl⟩ (Ev.now _)
    · simp only [if_neg hb]
      exact Ev.ifp (by omega) (Ev.now _)

end Go.Proofs.Yteajnkondkfmgaa.Pure
