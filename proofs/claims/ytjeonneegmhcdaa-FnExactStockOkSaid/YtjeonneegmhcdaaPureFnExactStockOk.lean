/- Proved here: the law FnExactStockOk, over numbers and lists: for all arguments it returns true; no condition. -/
import Derived.Test.YtjeonneegmhcdaaPFnExactStockOkx8
namespace Go.Proofs.Ytjeonneegmhcdaa.Pure
open Go.RowKit Go.Proofs.Ytjeonneegmhcdaa.PFnExactStockOk Go.Proofs.YtjeonneegmhcdaaW.PrintWords Go.Proofs.YtjeonneegmhcdaaW.PrintLast
set_option linter.unusedVariables false
set_option linter.unusedSimpArgs false

/-! #### base -/
/-! Words of this session: rounds, whole numbers in their bounds, reading by index. -/
theorem Ev.unroll {α : Type} {g : Nat → Option α} {r : α} (h : Ev (fun k => g (k + 1)) r) : Ev g r := Ev.step (fun _ => rfl) h
theorem Ev.const {α : Type} {x : Option α} {r : α} (h : x = some r) : Ev (fun _ => x) r := ⟨0, fun _ _ => h⟩
theorem Ev.fin {α : Type} {r s : α} (h : r = s) : Ev (fun _ => some r) s := by rw [h]; exact Ev.now _
theorem wrap_id {x : Int} (h0 : -9223372036854775808 ≤ x) (h1 : x ≤ 9223372036854775807) : wrap64 x = x := by unfold wrap64; omega
/-- The bound of all lengths here. -/
abbrev BIG : Nat := 4611686018427387904
theorem wrap_succ {i n : Nat} (h : i < n) (hn : n ≤ BIG) : wrap64 ((i : Int) + 1) = ((i + 1 : Nat) : Int) := by unfold wrap64; unfold BIG at hn; omega
theorem wrap_pred {i n : Nat} (h : i < n) (h0 : 0 < i) (hn : n ≤ BIG) : wrap64 ((i : Int) - 1) = ((i - 1 : Nat) : Int) := by unfold wrap64; unfold BIG at hn; omega
theorem rd_nat {xs : List Int} {i : Nat} (h : i < xs.length) : rd xs (i : Int) = xs[i] := by unfold rd; simp [List.getD, h]
theorem getD_nat {α : Type} {xs : List α} {d : α} {i : Nat} (h : i < xs.length) : xs.getD (i : Int).toNat d = xs[i] := by simp [List.getD, h]
theorem getD_zero {α : Type} {xs : List α} {d : α} (h : 0 < xs.length) : xs.getD (0 : Int).toNat d = xs[0] := by simp [List.getD, h]
theorem drop_cons {α : Type} {xs : List α} {i : Nat} (h : i < xs.length) : xs.drop i = xs[i] :: xs.drop (i + 1) := List.drop_eq_getElem_cons h
theorem drop_end {α : Type} {xs : List α} {i : Nat} (h : xs.length ≤ i) : xs.drop i = [] := List.drop_of_length_le h
/-- A list filled from the front, by index. -/
theorem fill_step {α : Type} (ys zs : List α) (x : α) {i : Nat} (hi : i = ys.length) (hz : 0 < zs.length) : (ys ++ zs).set i x = (ys ++ [x]) ++ zs.drop 1 := by
  subst hi
  match zs, hz with
  | z :: zs, _ => simp
theorem set_id {α : Type} (xs : List α) (i : Nat) (h : i < xs.length) : xs.set i xs[i] = xs := by
  apply List.ext_getElem
  · simp
  · intro j h1 h2
    rw [List.getElem_set]
    split
    · rename_i e; subst e; rfl
    · rfl
theorem some_bind {α β : Type} (a : α) (f : α → Option β) : (some a).bind f = f a := rfl
theorem getD_at {α : Type} {xs : List α} {d : α} {i : Nat} (h : i < xs.length) : xs.getD i d = xs[i] := by simp [List.getD, h]
/-- All places from i on, below n. -/
def allFrom (n i : Nat) (p : Nat → Bool) : Bool := (List.range' i (n - i)).all p
theorem allFrom_end {n i : Nat} {p : Nat → Bool} (h : n ≤ i) : allFrom n i p = true := by
  unfold allFrom
  rw [show n - i = 0 by omega]; rfl
theorem allFrom_step {n i : Nat} {p : Nat → Bool} (h : i < n) : allFrom n i p = (p i && allFrom n (i + 1) p) := by
  unfold allFrom
  rw [show n - i = (n - (i + 1)) + 1 by omega, List.range'_succ, List.all_cons]
theorem allFrom_no {n i : Nat} {p : Nat → Bool} (h : i < n) (hp : p i = false) : allFrom n i p = false := by rw [allFrom_step h, hp, Bool.false_and]
theorem allFrom_yes {n i : Nat} {p : Nat → Bool} (h : i < n) (hp : p i = true) : allFrom n i p = allFrom n (i + 1) p := by rw [allFrom_step h, hp, Bool.true_and]
theorem allFrom_iff {n i : Nat} {p : Nat → Bool} : allFrom n i p = true ↔ ∀ j, i ≤ j → j < n → p j = true := by
  unfold allFrom
  rw [List.all_eq_true]
  constructor
  · intro h j h1 h2
    exact h j (by rw [List.mem_range'_1]; omega)
  · intro h j hj
    rw [List.mem_range'_1] at hj
    exact h j hj.1 (by omega)
theorem itd_pos {α : Type} {p : Prop} [Decidable p] (h : p) {a b : α} : (if decide p = true then a else b) = a := if_pos (decide_eq_true h)
theorem itd_neg {α : Type} {p : Prop} [Decidable p] (h : ¬ p) {a b : α} : (if decide p = true then a else b) = b := if_neg (by rw [decide_eq_false h]; decide)
/-- The places from i on, below n, that p holds of. -/
def filtFrom (n i : Nat) (p : Nat → Bool) : List Int := ((List.range' i (n - i)).filter p).map (fun j : Nat => (j : Int))
theorem filtFrom_end {n i : Nat} {p : Nat → Bool} (h : n ≤ i) : filtFrom n i p = [] := by
  unfold filtFrom
  rw [show n - i = 0 by omega]; rfl
theorem filtFrom_yes {n i : Nat} {p : Nat → Bool} (h : i < n) (hp : p i = true) : filtFrom n i p = (i : Int) :: filtFrom n (i + 1) p := by
  unfold filtFrom
  rw [show n - i = (n - (i + 1)) + 1 by omega, List.range'_succ, List.filter_cons, if_pos hp, List.map_cons]
theorem filtFrom_no {n i : Nat} {p : Nat → Bool} (h : i < n) (hp : p i = false) : filtFrom n i p = filtFrom n (i + 1) p := by
  unfold filtFrom
  rw [show n - i = (n - (i + 1)) + 1 by omega, List.range'_succ, List.filter_cons, if_neg (by rw [hp]; decide)]
theorem filtFrom_le {n i : Nat} {p : Nat → Bool} : (filtFrom n i p).length ≤ n - i := by
  unfold filtFrom
  rw [List.length_map]
  exact Nat.le_trans (List.length_filter_le _ _) (by simp)
theorem mem_filtFrom {n i : Nat} {p : Nat → Bool} {x : Int} : x ∈ filtFrom n i p ↔ ∃ j : Nat, i ≤ j ∧ j < n ∧ p j = true ∧ x = (j : Int) := by
  unfold filtFrom
  simp only [List.mem_map, List.mem_filter, List.mem_range'_1]
  constructor
  · rintro ⟨j, ⟨⟨h1, h2⟩, h3⟩, rfl⟩; exact ⟨j, h1, by omega, h3, rfl⟩
  · rintro ⟨j, h1, h2, h3, rfl⟩; exact ⟨j, ⟨⟨h1, by omega⟩, h3⟩, rfl⟩
theorem wrap_sc {i : Nat} (h : i < 9223372036854775807) : wrap64 ((i : Int) + 1) = ((i + 1 : Nat) : Int) := by unfold wrap64; omega
theorem rd_nat' {xs : List Int} {i : Nat} : rd xs (i : Int) = xs.getD i 0 := by unfold rd; rw [Int.toNat_natCast]
theorem getD_zero' {α : Type} {xs : List α} {d : α} : xs.getD (0 : Int).toNat d = xs.getD 0 d := rfl
theorem Bool.ite_tf (b : Bool) : (if b = true then true else false) = b := by cases b <;> rfl
theorem ev_ite {α : Type} {c : Prop} [Decidable c] {g h : Nat → Option α} {r s : α} (h1 : c → Ev g r) (h2 : ¬ c → Ev h s) : Ev (fun k => if c then g k else h k) (if c then r else s) := by
  by_cases hc : c
  · simp only [if_pos hc]; exact h1 hc
  · simp only [if_neg hc]; exact h2 hc
theorem Ev.ifp {α : Type} {c : Prop} [Decidable c] {g h : Nat → Option α} {r : α} (hc : c) (e : Ev g r) : Ev (fun k => if c then g k else h k) r := by simp only [if_pos hc]; exact e
theorem Ev.ifn {α : Type} {c : Prop} [Decidable c] {g h : Nat → Option α} {r : α} (hc : ¬ c) (e : Ev h r) : Ev (fun k => if c then g k else h k) r := by simp only [if_neg hc]; exact e
theorem ev_ite' {α : Type} {c : Prop} [Decidable c] {g h : Nat → Option α} {r : α} (h1 : c → Ev g r) (h2 : ¬ c → Ev h r) : Ev (fun k => if c then g k else h k) r := by
  by_cases hc : c
  · simp only [if_pos hc]; exact h1 hc
  · simp only [if_neg hc]; exact h2 hc

/-! #### StockArg -/
/-! Stocks as arguments: their size, their copies, whether they are alike. -/
theorem rd_struct_at {α : Type} {xs : List α} {d : α} {i : Nat} (h : i < xs.length) : xs.getD (i : Int).toNat d = xs[i] := by rw [Int.toNat_natCast]; exact getD_at h
def mkStack (a : S175) : S155 := ⟨a.f0, a.f1, a.f2⟩
def mkPod (a : S153) : S123 := ⟨a.f0, a.f1, a.f2.map mkStack⟩
theorem szStackS_f (l : List S175) (b : Int) (h : l.length ≤ 9223372036854775807) (h0 : 0 ≤ b) (h1 : b ≤ 1048576) : laws_szStackS.f l b = some (if (l.length : Int) ≤ b then b - (l.length : Int) else -1) := by
  unfold laws_szStackS.f
  rw [wrap_id (by omega) (by omega)]
  split <;> split <;> first | rfl | omega
theorem szPod_f (x y : Int) (l : List S175) (b : Int) (h : l.length ≤ 9223372036854775807) (h0 : 0 ≤ b) (h1 : b ≤ 1048576) : laws_szPod.f x y l b = some (if (l.length : Int) ≤ b then b - (l.length : Int) else -1) := by
  unfold laws_szPod.f
  rw [szStackS_f l b h h0 h1, some_bind]
  split <;> split <;> first | rfl | omega
theorem szPodS_l0 (xs : List S153) (hn : xs.length ≤ 1048576) (hx : ∀ x ∈ xs, x.f2.length ≤ 9223372036854775807) : ∀ (d i : Nat) (b : Int), i + d = xs.length → 0 ≤ b → b ≤ 1048576 →
    ∃ r : Int, Ev (fun k => laws_szPodS.l0 k xs b i) r ∧ (0 ≤ r → ∀ x ∈ xs.drop i, x.f2.length ≤ 1048576)
  | 0, i, b, h, h0, h1 => ⟨b, Ev.unroll (by
      simp only [laws_szPodS.l0]
      exact Ev.ifn (by omega) (Ev.now _)), fun _ x hx => by rw [drop_end (by omega)] at hx; cases hx⟩
  | d + 1, i, b, h, h0, h1 => by
      have hi : i < xs.length := by omega
      have er : rd_T153 xs i = xs[i] := rd_struct_at hi
      have hl := hx xs[i] (List.getElem_mem hi)
      have e := szPod_f xs[i].f0 xs[i].f1 xs[i].f2 b hl h0 h1
      by_cases hb : (xs[i].f2.length : Int) ≤ b
      · obtain ⟨r, hr, hr2⟩ := szPodS_l0 xs hn hx d (i + 1) (b - xs[i].f2.length) (by omega) (by omega) (by omega)
        refine ⟨r, Ev.unroll ?_, fun h4 x hx => ?_⟩
        · rw [if_pos hb] at e
          simp only [laws_szPodS.l0, er, e, some_bind]
          refine Ev.ifp (by omega) (Ev.ifp (by omega) (Ev.ifn (by omega) ?_))
          rw [wrap_sc (i := i) (by omega)]
          exact hr
        · rw [drop_cons hi] at hx
          rcases List.mem_cons.1 hx with rfl | hx
          · omega
          · exact hr2 h4 x hx
      · refine ⟨-1, Ev.unroll ?_, fun h4 => by omega⟩
        rw [if_neg hb] at e
        simp only [laws_szPodS.l0, er, e, some_bind]
        exact Ev.ifp (by omega) (Ev.ifp (by omega) (Ev.ifp (by omega) (Ev.now _)))
theorem szStock_f (xs : List S153) (hn : xs.length ≤ 9223372036854775807) (hx : ∀ x ∈ xs, x.f2.length ≤ 9223372036854775807) :
    ∃ r : Int, Ev (fun k => laws_szStock.f k xs 1048576) r ∧ (0 ≤ r → xs.length ≤ 1048576 ∧ ∀ x ∈ xs, x.f2.length ≤ 1048576) := by
  unfold laws_szStock.f
  have key : ∃ r : Int, Ev (fun k => laws_szPodS.f k xs 1048576) r ∧ (0 ≤ r → xs.length ≤ 1048576 ∧ ∀ x ∈ xs, x.f2.length ≤ 1048576) := by
    unfold laws_szPodS.f
    by_cases hb : xs.length ≤ 1048576
    · obtain ⟨r, hr, hr2⟩ := szPodS_l0 xs hb hx xs.length 0 (1048576 - xs.length) (by omega) (by omega) (by omega)
      refine ⟨r, ?_, fun h4 => ⟨hb, fun x hx' => hr2 h4 x hx'⟩⟩
      rw [wrap_id (by omega) (by omega)]
      exact Ev.ifn (by omega) hr
    · refine ⟨-1, ?_, fun h4 => by omega⟩
      rw [wrap_id (by omega) (by omega)]
      exact Ev.ifp (by omega) (Ev.now _)
  obtain ⟨r, hr, hr2⟩ := key
  by_cases h0 : r < 0
  · exact ⟨-1, Ev.bind hr (Ev.ifp h0 (Ev.now _)), fun h => by omega⟩
  · exact ⟨r, Ev.bind hr (Ev.ifn h0 (Ev.now _)), hr2⟩
theorem toStackS_l0 (xs : List S175) (hn : xs.length ≤ 1048576) : ∀ (d i : Nat) (ys zs : List S155), i + d = xs.length → ys.length = i → zs.length = d → ys = (xs.take i).map mkStack → Ev (fun k => laws_toStackS.l0 k xs (ys ++ zs) i) (xs.map mkStack)
  | 0, i, ys, zs, h, hy, hz, e => Ev.unroll (by
      obtain rfl := List.length_eq_zero_iff.1 hz
      simp only [laws_toStackS.l0]
      exact Ev.ifn (by omega) (Ev.fin (by rw [e, List.take_of_length_le (by omega), List.append_nil])))
  | d + 1, i, ys, zs, h, hy, hz, e => Ev.unroll (by
      have hi : i < xs.length := by omega
      have hl : (ys ++ zs).length = xs.length := by simp; omega
      have er : rd_T175 xs i = xs[i] := rd_struct_at hi
      simp only [laws_toStackS.l0, laws_toStack.f, some_bind, er, hl]
      refine Ev.ifp (by omega) (Ev.ifp (by omega) (Ev.ifp (by omega) ?_))
      rw [wrap_sc (i := i) (by omega), Int.toNat_natCast, fill_step ys zs _ hy.symm (by omega)]
      exact toStackS_l0 xs hn d (i + 1) _ _ (by omega) (by simp; omega) (by simp; omega) (by rw [List.take_succ_eq_append_getElem hi, List.map_append, ← e]; rfl))
theorem toStackS_f (l : List S175) (h : l.length ≤ 1048576) : Ev (fun k => laws_toStackS.f k l) (l.map mkStack) := by
  unfold laws_toStackS.f
  rw [Int.toNat_natCast]
  exact Ev.ifp (by omega) (Ev.ifp (by omega) (toStackS_l0 l h l.length 0 [] _ (by omega) rfl (by simp) rfl))
theorem toPodS_l0 (xs : List S153) (hn : xs.length ≤ 1048576) (hx : ∀ x ∈ xs, x.f2.length ≤ 1048576) : ∀ (d i : Nat) (ys zs : List S123), i + d = xs.length → ys.length = i → zs.length = d → ys = (xs.take i).map mkPod → Ev (fun k => laws_toPodS.l0 k xs (ys ++ zs) i) (xs.map mkPod)
  | 0, i, ys, zs, h, hy, hz, e => Ev.unroll (by
      obtain rfl := List.length_eq_zero_iff.1 hz
      simp only [laws_toPodS.l0]
      exact Ev.ifn (by omega) (Ev.fin (by rw [e, List.take_of_length_le (by omega), List.append_nil])))
  | d + 1, i, ys, zs, h, hy, hz, e => Ev.unroll (by
      have hi : i < xs.length := by omega
      have hl : (ys ++ zs).length = xs.length := by simp; omega
      have er : rd_T153 xs i = xs[i] := rd_struct_at hi
      have ep : Ev (fun k => laws_toPod.f k xs[i].f0 xs[i].f1 xs[i].f2) (xs[i].f0, xs[i].f1, xs[i].f2.map mkStack) := by
        unfold laws_toPod.f
        exact Ev.bind (toStackS_f _ (hx _ (List.getElem_mem hi))) (Ev.now _)
      simp only [laws_toPodS.l0, er, hl]
      refine Ev.ifp (by omega) (Ev.ifp (by omega) (Ev.bind ep (Ev.ifp (by omega) ?_)))
      rw [wrap_sc (i := i) (by omega), Int.toNat_natCast, fill_step ys zs _ hy.symm (by omega)]
      exact toPodS_l0 xs hn hx d (i + 1) _ _ (by omega) (by simp; omega) (by simp; omega) (by rw [List.take_succ_eq_append_getElem hi, List.map_append, ← e]; rfl))
theorem toStock_f (l : List S153) (h : l.length ≤ 1048576) (hx : ∀ x ∈ l, x.f2.length ≤ 1048576) : Ev (fun k => laws_toStock.f k l) (l.map mkPod) := by
  unfold laws_toStock.f laws_toPodS.f
  rw [Int.toNat_natCast]
  refine Ev.bind (g := fun k => if 0 ≤ (l.length : Int) then (if l.length ≤ 7036874417766 then (laws_toPodS.l0 k l (List.replicate l.length z123) 0) else (none)) else (none)) (a := l.map mkPod) ?_ (Ev.now _)
  exact Ev.ifp (by omega) (Ev.ifp (by omega) (toPodS_l0 l h hx l.length 0 [] _ (by omega) rfl (by simp) rfl))
theorem eqStack_f (r : S155) : laws_eqStack.f r.f0 r.f1 r.f2 r.f0 r.f1 r.f2 = some true := by
  unfold laws_eqStack.f; simp
theorem eqStackS_l0 (xs : List S155) (hn : xs.length ≤ 4194304) : ∀ (d i : Nat), i + d = xs.length → Ev (fun k => laws_eqStackS.l0 k xs xs i) true
  | 0, i, h => Ev.unroll (by
      simp only [laws_eqStackS.l0]
      exact Ev.ifn (by omega) (Ev.now _))
  | d + 1, i, h => Ev.unroll (by
      simp only [laws_eqStackS.l0, eqStack_f, some_bind, wrap_sc (show i < 9223372036854775807 by omega)]
      exact Ev.ifp (by omega) (Ev.ifp (by omega) (Ev.ifp (by omega) (Ev.ifp trivial (eqStackS_l0 xs hn d (i + 1) (by omega))))))
theorem eqPod_f (x y : Int) (l : List S155) (h : l.length ≤ 4194304) : Ev (fun k => laws_eqPod.f k x y l x y l) true := by
  have : Ev (fun k => laws_eqStackS.f k l l) true := by
    unfold laws_eqStackS.f
    exact Ev.ifp rfl (eqStackS_l0 l h l.length 0 (by omega))
  unfold laws_eqPod.f
  exact Ev.ifp rfl (Ev.ifp rfl (Ev.bind this (Ev.ifp rfl (Ev.now _))))
theorem eqPodS_l0 (xs : List S123) (hn : xs.length ≤ 4194304) (hx : ∀ x ∈ xs, x.f2.length ≤ 4194304) : ∀ (d i : Nat), i + d = xs.length → Ev (fun k => laws_eqPodS.l0 k xs xs i) true
  | 0, i, h => Ev.unroll (by
      simp only [laws_eqPodS.l0]
      exact Ev.ifn (by omega) (Ev.now _))
  | d + 1, i, h => Ev.unroll (by
      have hi : i < xs.length := by omega
      have er : rd_T123 xs i = xs[i] := rd_struct_at hi
      simp only [laws_eqPodS.l0, er, wrap_sc (show i < 9223372036854775807 by omega)]
      exact Ev.ifp (by omega) (Ev.ifp (by omega) (Ev.ifp (by omega) (Ev.bind (eqPod_f _ _ _ (hx _ (List.getElem_mem hi))) (Ev.ifp rfl (eqPodS_l0 xs hn hx d (i + 1) (by omega)))))))
theorem eqStock_f (l : List S123) (h : l.length ≤ 4194304) (hx : ∀ x ∈ l, x.f2.length ≤ 4194304) : Ev (fun k => laws_eqStock.f k l l) true := by
  have : Ev (fun k => laws_eqPodS.f k l l) true := by
    unfold laws_eqPodS.f
    exact Ev.ifp rfl (eqPodS_l0 l h hx l.length 0 (by omega))
  unfold laws_eqStock.f
  exact Ev.bind this (Ev.ifp rfl (Ev.now _))

/-! #### In -/
/-- Between two bounds. -/
def inB (a b c : Int) : Bool := decide (b ≤ a ∧ a ≤ c)
theorem inB_iff {a b c : Int} : inB a b c = true ↔ b ≤ a ∧ a ≤ c := by unfold inB; exact decide_eq_true_iff
theorem inB_no {a b c : Int} : inB a b c = false ↔ ¬ (b ≤ a ∧ a ≤ c) := by rw [← inB_iff]; simp
theorem impl_in_f (a b c : Int) : impl_in.f a b c = some (inB a b c) := by
  unfold impl_in.f inB
  by_cases h : b ≤ a <;> by_cases h2 : a ≤ c <;> simp [h, h2]
theorem spec_l1In_f (a b c : Int) : spec_l1In.f a b c = some (inB a b c) := by
  unfold spec_l1In.f inB
  by_cases h : b ≤ a <;> by_cases h2 : a ≤ c <;> simp [h, h2]

/-! #### StockOk -/
/-! A stock that is right. -/
def stackAt (l : List S155) (j : Nat) : S155 := l.getD j z155
def podAtN (l : List S123) (j : Nat) : S123 := l.getD j z123
def stackOk (l : List S155) (j : Nat) : Bool := inB (stackAt l j).f0 1 50 && (inB (stackAt l j).f1 1 1000 && (inB (stackAt l j).f2 0 (stackAt l j).f1 && (decide (j = 0) || decide ((stackAt l (j - 1)).f0 < (stackAt l j).f0))))
def stacksOk (l : List S155) : Bool := allFrom l.length 0 (stackOk l)
def podOk (p : S123) : Bool := inB p.f0 1 999 && (inB p.f1 0 99 && (decide (p.f2.length ≤ 8) && stacksOk p.f2))
def homesOk (l : List S123) (i : Nat) : Nat → Bool := fun k => !decide ((podAtN l k).f1 = (podAtN l i).f1)
def podAtOk (l : List S123) (i : Nat) : Bool := podOk (podAtN l i) && ((decide (i = 0) || decide ((podAtN l (i - 1)).f0 < (podAtN l i).f0)) && allFrom i 0 (homesOk l i))
def stockOk (l : List S123) : Bool := decide (l.length ≤ 12) && allFrom l.length 0 (podAtOk l)
theorem rd_stack {l : List S155} {i : Nat} : rd_T155 l (i : Int) = stackAt l i := by unfold rd_T155 stackAt; rw [Int.toNat_natCast]
theorem rd_pod {l : List S123} {i : Nat} : rd_T123 l (i : Int) = podAtN l i := by unfold rd_T123 podAtN; rw [Int.toNat_natCast]
theorem wrap_pd {i : Nat} (h : i < 9223372036854775807) (h0 : 0 < i) : wrap64 ((i : Int) - 1) = ((i - 1 : Nat) : Int) := by unfold wrap64; omega
theorem spec_l5Stacks_l0 (l : List S155) (hn : l.length ≤ 4194304) : ∀ (d i : Nat), i + d = l.length → Ev (fun k => spec_l5Stacks.l0 k l i) (decide (l.length ≤ 8) && allFrom l.length i (stackOk l))
  | 0, i, h => Ev.unroll (by
      simp only [spec_l5Stacks.l0]
      refine Ev.ifn (by omega) (Ev.fin ?_)
      rw [allFrom_end (by omega), Bool.and_true, Bool.eq_iff_iff, decide_eq_true_eq, decide_eq_true_eq]; omega)
  | d + 1, i, h => Ev.unroll (by
      have hi : i < l.length := by omega
      have ih := spec_l5Stacks_l0 l hn d (i + 1) (by omega)
      simp only [spec_l5Stacks.l0, spec_l1In_f, some_bind, rd_stack, wrap_sc (show i < 9223372036854775807 by omega)]
      rw [allFrom_step hi]
      refine Ev.ifp (by omega) (Ev.ifp (by omega) ?_)
      have no : ∀ b : Bool, stackOk l i = false → Ev (fun _ : Nat => some false) (decide (l.length ≤ 8) && (stackOk l i && allFrom l.length (i + 1) (stackOk l))) := fun _ e => Ev.fin (by rw [e]; simp)
      refine ev_ite' (fun h1 => ev_ite' (fun h2 => ev_ite' (fun h3 => ?_) (fun h3 => no true ?_)) (fun h2 => no true ?_)) (fun h1 => no true ?_)
      · by_cases h0 : 0 < i
        · rw [wrap_pd (by omega) h0]
          simp only [rd_stack]
          refine Ev.ifp (by omega) (Ev.ifp (by omega) (Ev.ifp (by omega) ?_))
          refine ev_ite' (fun h4 => no true ?_) (fun h4 => ?_)
          · unfold stackOk; rw [h1, h2, h3, decide_eq_false (by omega), decide_eq_false (by omega)]; rfl
          · rw [show stackOk l i = true by unfold stackOk; rw [h1, h2, h3, decide_eq_true (show (stackAt l (i - 1)).f0 < (stackAt l i).f0 by omega), Bool.or_true]; rfl, Bool.true_and]
            exact ih
        · refine Ev.ifn (by omega) ?_
          rw [show stackOk l i = true by unfold stackOk; rw [h1, h2, h3, decide_eq_true (show i = 0 by omega), Bool.true_or]; rfl, Bool.true_and]
          exact ih
      · unfold stackOk; rw [Bool.not_eq_true] at h3; rw [h3]; simp
      · unfold stackOk; rw [Bool.not_eq_true] at h2; rw [h2]; simp
      · unfold stackOk; rw [Bool.not_eq_true] at h1; rw [h1]; simp)
theorem impl_podOk_l0 (x y : Int) (l : List S155) (hn : l.length ≤ 4194304) : ∀ (d i : Nat), i + d = l.length → Ev (fun k => impl_podOk.l0 k l l.length i x y l) (allFrom l.length i (stackOk l))
  | 0, i, h => Ev.unroll (by
      simp only [impl_podOk.l0]
      exact Ev.ifn (by omega) (Ev.fin (allFrom_end (by omega)).symm))
  | d + 1, i, h => Ev.unroll (by
      have hi : i < l.length := by omega
      have ih := impl_podOk_l0 x y l hn d (i + 1) (by omega)
      simp only [impl_podOk.l0, impl_in_f, some_bind, rd_stack, wrap_sc (show i < 9223372036854775807 by omega)]
      rw [allFrom_step hi]
      refine Ev.ifp (by omega) (Ev.ifp (by omega) (Ev.ifp (by omega) ?_))
      have no : ∀ b : Bool, stackOk l i = false → Ev (fun _ : Nat => some false) (stackOk l i && allFrom l.length (i + 1) (stackOk l)) := fun _ e => Ev.fin (by rw [e]; simp)
      refine ev_ite' (fun h1 => ev_ite' (fun h2 => ev_ite' (fun h3 => ?_) (fun h3 => no true ?_)) (fun h2 => no true ?_)) (fun h1 => no true ?_)
      · by_cases h0 : 0 < i
        · rw [wrap_pd (by omega) h0]
          simp only [rd_stack]
          refine Ev.ifp (by omega) (Ev.ifp (by omega) (Ev.ifp (by omega) ?_))
          refine ev_ite' (fun h4 => no true ?_) (fun h4 => ?_)
          · unfold stackOk; rw [h1, h2, h3, decide_eq_false (by omega), decide_eq_false (by omega)]; rfl
          · rw [show stackOk l i = true by unfold stackOk; rw [h1, h2, h3, decide_eq_true (show (stackAt l (i - 1)).f0 < (stackAt l i).f0 by omega), Bool.or_true]; rfl, Bool.true_and]
            exact ih
        · refine Ev.ifn (by omega) ?_
          rw [show stackOk l i = true by unfold stackOk; rw [h1, h2, h3, decide_eq_true (show i = 0 by omega), Bool.true_or]; rfl, Bool.true_and]
          exact ih
      · unfold stackOk; rw [Bool.not_eq_true] at h3; rw [h3]; simp
      · unfold stackOk; rw [Bool.not_eq_true] at h2; rw [h2]; simp
      · unfold stackOk; rw [Bool.not_eq_true] at h1; rw [h1]; simp)
theorem impl_podOk_f (p : S123) (hn : p.f2.length ≤ 4194304) : Ev (fun k => impl_podOk.f k p.f0 p.f1 p.f2) (podOk p) := by
  unfold impl_podOk.f
  simp only [impl_in_f, some_bind]
  have no : podOk p = false → Ev (fun k => impl_podOk.j0 k true p.f0 p.f1 p.f2) (podOk p) := fun e => Ev.unroll (by
    simp only [impl_podOk.j0]
    exact Ev.ifp trivial (Ev.fin e.symm))
  refine ev_ite' (fun h1 => ev_ite' (fun h2 => ?_) (fun h2 => no ?_)) (fun h1 => no ?_)
  · by_cases h3 : p.f2.length ≤ 8
    · rw [decide_eq_false (by omega)]
      refine Ev.unroll ?_
      simp only [impl_podOk.j0]
      rw [show podOk p = stacksOk p.f2 by unfold podOk; rw [h1, h2, decide_eq_true h3]; rfl]
      exact Ev.ifn (by simp) (impl_podOk_l0 _ _ p.f2 hn p.f2.length 0 (by omega))
    · rw [decide_eq_true (by omega)]
      exact no (by unfold podOk; rw [decide_eq_false h3]; simp)
  · unfold podOk; rw [Bool.not_eq_true] at h2; rw [h2]; simp
  · unfold podOk; rw [Bool.not_eq_true] at h1; rw [h1]; simp
theorem spec_StockOk_l1 (l : List S123) (i : Nat) (hn : l.length ≤ 4194304) (hi : i < l.length) (R : Bool) (hR : Ev (fun k => spec_StockOk.l0 k ((i + 1 : Nat) : Int) l) R) : ∀ (d j : Nat), j + d = i → Ev (fun k => spec_StockOk.l1 k i j l (podAtN l i).f0 (podAtN l i).f1 (podAtN l i).f2) (allFrom i j (homesOk l i) && R)
  | 0, j, h => Ev.unroll (by
      simp only [spec_StockOk.l1, wrap_sc (show i < 9223372036854775807 by omega)]
      rw [allFrom_end (by omega), Bool.true_and]
      exact Ev.ifn (by omega) hR)
  | d + 1, j, h => Ev.unroll (by
      have ih := spec_StockOk_l1 l i hn hi R hR d (j + 1) (by omega)
      simp only [spec_StockOk.l1, rd_pod, wrap_sc (show j < 9223372036854775807 by omega)]
      rw [allFrom_step (by omega)]
      refine Ev.ifp (by omega) (Ev.ifp (by omega) (Ev.ifp (by omega) ?_))
      refine ev_ite' (fun h1 => Ev.fin ?_) (fun h1 => ?_)
      · unfold homesOk; rw [decide_eq_true h1]; rfl
      · rw [show homesOk l i j = true by unfold homesOk; rw [decide_eq_false h1]; rfl, Bool.true_and]
        exact ih)
theorem spec_StockOk_l0 (l : List S123) (hn : l.length ≤ 4194304) (hx : ∀ x ∈ l, x.f2.length ≤ 4194304) : ∀ (d i : Nat), i + d = l.length → Ev (fun k => spec_StockOk.l0 k i l) (allFrom l.length i (podAtOk l))
  | 0, i, h => Ev.unroll (by
      simp only [spec_StockOk.l0]
      exact Ev.ifn (by omega) (Ev.fin (allFrom_end (by omega)).symm))
  | d + 1, i, h => Ev.unroll (by
      have hi : i < l.length := by omega
      have hp : (podAtN l i).f2.length ≤ 4194304 := by unfold podAtN; rw [getD_at hi]; exact hx _ (List.getElem_mem hi)
      have ih := spec_StockOk_l0 l hn hx d (i + 1) (by omega)
      have hs : Ev (fun k => spec_l5Stacks.f k (podAtN l i).f2) (decide ((podAtN l i).f2.length ≤ 8) && stacksOk (podAtN l i).f2) := spec_l5Stacks_l0 _ hp (podAtN l i).f2.length 0 (by omega)
      simp only [spec_StockOk.l0, spec_l1In_f, some_bind, rd_pod]
      rw [allFrom_step hi]
      refine Ev.ifp (by omega) (Ev.ifp (by omega) ?_)
      have no : podAtOk l i = false → Ev (fun k => spec_StockOk.j1 k i true l (podAtN l i).f0 (podAtN l i).f1 (podAtN l i).f2) (podAtOk l i && allFrom l.length (i + 1) (podAtOk l)) := fun e => Ev.unroll (by
        simp only [spec_StockOk.j1]
        exact Ev.ifp trivial (Ev.fin (by rw [e]; rfl)))
      have yes : podOk (podAtN l i) = true → (i = 0 ∨ (podAtN l (i - 1)).f0 < (podAtN l i).f0) → Ev (fun k => spec_StockOk.j1 k i false l (podAtN l i).f0 (podAtN l i).f1 (podAtN l i).f2) (podAtOk l i && allFrom l.length (i + 1) (podAtOk l)) := fun e e2 => Ev.unroll (by
        simp only [spec_StockOk.j1]
        rw [show podAtOk l i = allFrom i 0 (homesOk l i) by unfold podAtOk; rw [e, Bool.true_and, show (decide (i = 0) || decide ((podAtN l (i - 1)).f0 < (podAtN l i).f0)) = true by rcases e2 with h | h <;> simp [h], Bool.true_and]]
        exact Ev.ifn (by simp) (spec_StockOk_l1 l i hn hi _ ih i 0 (by omega)))
      refine ev_ite' (fun h1 => ev_ite' (fun h2 => Ev.bind hs (ev_ite' (fun h3 => ?_) (fun h3 => no ?_))) (fun h2 => no ?_)) (fun h1 => no ?_)
      · have hok : podOk (podAtN l i) = true := by unfold podOk; rw [h1, h2, h3]; rfl
        by_cases h0 : 0 < i
        · rw [wrap_pd (by omega) h0]
          simp only [rd_pod]
          refine Ev.ifp (by omega) (Ev.ifp (by omega) (Ev.ifp (by omega) ?_))
          by_cases h4 : (podAtN l (i - 1)).f0 ≥ (podAtN l i).f0
          · rw [decide_eq_true h4]
            exact no (by unfold podAtOk; rw [hok, decide_eq_false (by omega), decide_eq_false (by omega)]; rfl)
          · rw [decide_eq_false h4]
            exact yes hok (Or.inr (by omega))
        · exact Ev.ifn (by omega) (yes hok (Or.inl (by omega)))
      · unfold podAtOk podOk; rw [Bool.not_eq_true] at h3; rw [h3]; simp
      · unfold podAtOk podOk; rw [Bool.not_eq_true] at h2; rw [h2]; simp
      · unfold podAtOk podOk; rw [Bool.not_eq_true] at h1; rw [h1]; simp)
theorem spec_StockOk_f (l : List S123) (hn : l.length ≤ 4194304) (hx : ∀ x ∈ l, x.f2.length ≤ 4194304) : Ev (fun k => spec_StockOk.f k l) (stockOk l) := by
  unfold spec_StockOk.f stockOk
  by_cases h : l.length ≤ 12
  · rw [decide_eq_true h, Bool.true_and]
    exact Ev.ifn (by omega) (spec_StockOk_l0 l hn hx l.length 0 (by omega))
  · rw [decide_eq_false h, Bool.false_and]
    exact Ev.ifp (by omega) (Ev.now _)
theorem impl_StockOk_l1 (l ys : List S123) (i : Nat) (hn : l.length ≤ 4194304) (hi : i < l.length) (hy : ys = l.take i) (R : Bool) (hR : Ev (fun k => impl_StockOk.l0 k l l.length ((i + 1 : Nat) : Int) l) R) : ∀ (d j : Nat), j + d = i → Ev (fun k => impl_StockOk.l1 k l l.length i ys ys.length j l (podAtN l i).f0 (podAtN l i).f1 (podAtN l i).f2) (allFrom i j (homesOk l i) && R)
  | 0, j, h => Ev.unroll (by
      have hl : ys.length = i := by rw [hy]; simp; omega
      simp only [impl_StockOk.l1, wrap_sc (show i < 9223372036854775807 by omega)]
      rw [allFrom_end (by omega), Bool.true_and]
      exact Ev.ifn (by omega) hR)
  | d + 1, j, h => Ev.unroll (by
      have hl : ys.length = i := by rw [hy]; simp; omega
      have hj : podAtN ys j = podAtN l j := by unfold podAtN; rw [getD_at (by omega), getD_at (by omega)]; simp [hy]
      have ih := impl_StockOk_l1 l ys i hn hi hy R hR d (j + 1) (by omega)
      simp only [impl_StockOk.l1, rd_pod, wrap_sc (show j < 9223372036854775807 by omega)]
      rw [allFrom_step (by omega), hj]
      refine Ev.ifp (by omega) (Ev.ifp (by omega) (Ev.ifp (by omega) ?_))
      refine ev_ite' (fun h1 => Ev.fin ?_) (fun h1 => ?_)
      · unfold homesOk; rw [decide_eq_true h1]; rfl
      · rw [show homesOk l i j = true by unfold homesOk; rw [decide_eq_false h1]; rfl, Bool.true_and]
        exact ih)
theorem impl_StockOk_l0 (l : List S123) (hn : l.length ≤ 4194304) (hx : ∀ x ∈ l, x.f2.length ≤ 4194304) : ∀ (d i : Nat), i + d = l.length → Ev (fun k => impl_StockOk.l0 k l l.length i l) (allFrom l.length i (podAtOk l) && decide (l.length ≤ 12))
  | 0, i, h => Ev.unroll (by
      simp only [impl_StockOk.l0]
      refine Ev.ifn (by omega) (Ev.fin ?_)
      rw [allFrom_end (by omega), Bool.true_and, Bool.eq_iff_iff, decide_eq_true_eq, decide_eq_true_eq]; omega)
  | d + 1, i, h => Ev.unroll (by
      have hi : i < l.length := by omega
      have hp : (podAtN l i).f2.length ≤ 4194304 := by unfold podAtN; rw [getD_at hi]; exact hx _ (List.getElem_mem hi)
      have ih := impl_StockOk_l0 l hn hx d (i + 1) (by omega)
      have hs := impl_podOk_f (podAtN l i) hp
      simp only [impl_StockOk.l0, rd_pod]
      rw [allFrom_step hi]
      refine Ev.ifp (by omega) (Ev.ifp (by omega) (Ev.ifp (by omega) (Ev.bind hs ?_)))
      have no : podAtOk l i = false → Ev (fun k => impl_StockOk.j1 k i l l.length i true l (podAtN l i).f0 (podAtN l i).f1 (podAtN l i).f2) (podAtOk l i && allFrom l.length (i + 1) (podAtOk l) && decide (l.length ≤ 12)) := fun e => Ev.unroll (by
        simp only [impl_StockOk.j1]
        exact Ev.ifp trivial (Ev.fin (by rw [e]; rfl)))
      have yes : podOk (podAtN l i) = true → (i = 0 ∨ (podAtN l (i - 1)).f0 < (podAtN l i).f0) → Ev (fun k => impl_StockOk.j1 k i l l.length i false l (podAtN l i).f0 (podAtN l i).f1 (podAtN l i).f2) (podAtOk l i && allFrom l.length (i + 1) (podAtOk l) && decide (l.length ≤ 12)) := fun e e2 => Ev.unroll (by
        simp only [impl_StockOk.j1, some_bind, Int.toNat_natCast]
        rw [show podAtOk l i = allFrom i 0 (homesOk l i) by unfold podAtOk; rw [e, Bool.true_and, show (decide (i = 0) || decide ((podAtN l (i - 1)).f0 < (podAtN l i).f0)) = true by rcases e2 with h | h <;> simp [h], Bool.true_and], Bool.and_assoc]
        exact Ev.ifn (by simp) (Ev.ifp (by omega) (Ev.ifp (by omega) (impl_StockOk_l1 l _ i hn hi rfl _ ih i 0 (by omega)))))
      refine ev_ite' (fun hok => ?_) (fun hok => no ?_)
      · by_cases h0 : 0 < i
        · rw [wrap_pd (by omega) h0]
          simp only [rd_pod]
          refine Ev.ifp (by omega) (Ev.ifp (by omega) (Ev.ifp (by omega) ?_))
          by_cases h4 : (podAtN l (i - 1)).f0 ≥ (podAtN l i).f0
          · rw [decide_eq_true h4]
            exact no (by unfold podAtOk; rw [hok, decide_eq_false (by omega), decide_eq_false (by omega)]; rfl)
          · rw [decide_eq_false h4]
            exact yes hok (Or.inr (by omega))
        · exact Ev.ifn (by omega) (yes hok (Or.inl (by omega)))
      · unfold podAtOk; rw [Bool.not_eq_true] at hok; rw [hok]; simp)
theorem impl_StockOk_f (l : List S123) (hn : l.length ≤ 4194304) (hx : ∀ x ∈ l, x.f2.length ≤ 4194304) : Ev (fun k => impl_StockOk.f k l) (stockOk l) := by
  unfold impl_StockOk.f stockOk
  rw [Bool.and_comm]
  exact impl_StockOk_l0 l hn hx l.length 0 (by omega)

/-! #### FnExactStockOk -/
theorem FnExactStockOk : ∀ (l0_0 : List (S153)), (l0_0.length ≤ 9223372036854775807 ∧ ∀ y0 ∈ l0_0, ((-9223372036854775808 ≤ y0.f0 ∧ y0.f0 ≤ 9223372036854775807) ∧ (-9223372036854775808 ≤ y0.f1 ∧ y0.f1 ≤ 9223372036854775807) ∧ (y0.f2.length ≤ 9223372036854775807 ∧ ∀ y1 ∈ y0.f2, ((-9223372036854775808 ≤ y1.f0 ∧ y1.f0 ≤ 9223372036854775807) ∧ (-9223372036854775808 ≤ y1.f1 ∧ y1.f1 ≤ 9223372036854775807) ∧ (-9223372036854775808 ≤ y1.f2 ∧ y1.f2 ≤ 9223372036854775807))))) → ∃ k, laws_FnExactStockOk.f k l0_0 = some true := by
  intro l hh
  have hl := hh.1
  have hx : ∀ x ∈ l, x.f2.length ≤ 9223372036854775807 := fun x hx => (hh.2 x hx).2.2.1
  refine Ev.rounds ?_
  unfold laws_FnExactStockOk.f
  obtain ⟨r, hr, hr2⟩ := szStock_f l hl hx
  refine Ev.bind hr ?_
  by_cases h0 : r < 0
  · exact Ev.ifp h0 (Ev.now _)
  · obtain ⟨h1, h2⟩ := hr2 (by omega)
    have m1 : (l.map mkPod).length ≤ 4194304 := by rw [List.length_map]; omega
    have m2 : ∀ x ∈ l.map mkPod, x.f2.length ≤ 4194304 := fun x hx => by
      obtain ⟨y, hy, rfl⟩ := List.mem_map.1 hx
      have := h2 y hy
      simp only [mkPod, List.length_map]; omega
    have e1 := toStock_f l h1 h2
    have e2 := spec_StockOk_f _ m1 m2
    have e3 := impl_StockOk_f _ m1 m2
    have e4 := eqStock_f _ m1 m2
    repeat (first | exact Ev.now _ | (with_reducible refine Ev.bind (e1) ?_; try dsimp only) | (with_reducible refine Ev.bind (e2) ?_; try dsimp only) | (with_reducible refine Ev.bind (e3) ?_; try dsimp only) | (with_reducible refine Ev.bind (e4) ?_; try dsimp only) | (with_reducible refine Ev.ifp ?cc ?_; (case cc => first | rfl | decide | assumption | omega)) | (with_reducible refine Ev.ifn ?cc ?_; (case cc => first | decide | assumption | omega)) | simp only [bne_self_eq_false, some_bind])

end Go.Proofs.Ytjeonneegmhcdaa.Pure
