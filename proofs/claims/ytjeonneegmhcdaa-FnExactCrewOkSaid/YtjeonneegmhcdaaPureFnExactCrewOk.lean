/- Proved here: the law FnExactCrewOk, over numbers and lists: for all arguments it returns true; no condition. -/
import Derived.Test.YtjeonneegmhcdaaPFnExactCrewOkx7
namespace Go.Proofs.Ytjeonneegmhcdaa.Pure
open Go.RowKit Go.Proofs.Ytjeonneegmhcdaa.PFnExactCrewOk Go.Proofs.YtjeonneegmhcdaaW.PrintWords Go.Proofs.YtjeonneegmhcdaaW.PrintLast
set_option linter.unusedVariables false
set_option linter.unusedSimpArgs false

/-! #### base -/
/-! Words of this session: rounds, whole numbers in their bounds, reading by index. -/
theorem Ev.unroll {α : Type} {g : Nat → Option α} {r : α} (h : Ev (fun k => g (k + 1)) r) : Ev g r := Ev.step (fun _ => rfl) h
theorem Ev.const {α : Type} {x : Option α} {r : α} (h : x = some r) : Ev (fun _ => x) r := ⟨0, fun _ _ => h⟩
theorem Ev.fin {α : Type} {r s : α} (h : r = s) : Ev (fun _ => some r) s := by rw [h]; exact Ev.now _
theorem wrap_id {x : Int} (h0 : -9223372036854775808 ≤ x) (h1 : x ≤ 9223372036854775807) : wrap64 x = x := by unfold wrap64; omega
/-- The bound of all lengths here. -/
abbrev BIG : Nat := 4611686018427387904
theorem wrap_succ {i n : Nat} (h : i < n) (hn : n ≤ BIG) : wrap64 ((i : Int) + 1) = ((i + 1 : Nat) : Int) := by unfold wrap64; unfold BIG at hn; omega
theorem wrap_pred {i n : Nat} (h : i < n) (h0 : 0 < i) (hn : n ≤ BIG) : wrap64 ((i : Int) - 1) = ((i - 1 : Nat) : Int) := by unfold wrap64; unfold BIG at hn; omega
theorem rd_nat {xs : List Int} {i : Nat} (h : i < xs.length) : rd xs (i : Int) = xs[i] := by unfold rd; simp [List.getD, h]
theorem getD_nat {α : Type} {xs : List α} {d : α} {i : Nat} (h : i < xs.length) : xs.getD (i : Int).toNat d = xs[i] := by simp [List.getD, h]
theorem getD_zero {α : Type} {xs : List α} {d : α} (h : 0 < xs.length) : xs.getD (0 : Int).toNat d = xs[0] := by simp [List.getD, h]
theorem drop_cons {α : Type} {xs : List α} {i : Nat} (h : i < xs.length) : xs.drop i = xs[i] :: xs.drop (i + 1) := List.drop_eq_getElem_cons h
theorem drop_end {α : Type} {xs : List α} {i : Nat} (h : xs.length ≤ i) : xs.drop i = [] := List.drop_of_length_le h
/-- A list filled from the front, by index. -/
theorem fill_step {α : Type} (ys zs : List α) (x : α) {i : Nat} (hi : i = ys.length) (hz : 0 < zs.length) : (ys ++ zs).set i x = (ys ++ [x]) ++ zs.drop 1 := by
  subst hi
  match zs, hz with
  | z :: zs, _ => simp
theorem set_id {α : Type} (xs : List α) (i : Nat) (h : i < xs.length) : xs.set i xs[i] = xs := by
  apply List.ext_getElem
  · simp
  · intro j h1 h2
    rw [List.getElem_set]
    split
    · rename_i e; subst e; rfl
    · rfl
theorem some_bind {α β : Type} (a : α) (f : α → Option β) : (some a).bind f = f a := rfl
theorem getD_at {α : Type} {xs : List α} {d : α} {i : Nat} (h : i < xs.length) : xs.getD i d = xs[i] := by simp [List.getD, h]
/-- All places from i on, below n. -/
def allFrom (n i : Nat) (p : Nat → Bool) : Bool := (List.range' i (n - i)).all p
theorem allFrom_end {n i : Nat} {p : Nat → Bool} (h : n ≤ i) : allFrom n i p = true := by
  unfold allFrom
  rw [show n - i = 0 by omega]; rfl
theorem allFrom_step {n i : Nat} {p : Nat → Bool} (h : i < n) : allFrom n i p = (p i && allFrom n (i + 1) p) := by
  unfold allFrom
  rw [show n - i = (n - (i + 1)) + 1 by omega, List.range'_succ, List.all_cons]
theorem allFrom_no {n i : Nat} {p : Nat → Bool} (h : i < n) (hp : p i = false) : allFrom n i p = false := by rw [allFrom_step h, hp, Bool.false_and]
theorem allFrom_yes {n i : Nat} {p : Nat → Bool} (h : i < n) (hp : p i = true) : allFrom n i p = allFrom n (i + 1) p := by rw [allFrom_step h, hp, Bool.true_and]
theorem allFrom_iff {n i : Nat} {p : Nat → Bool} : allFrom n i p = true ↔ ∀ j, i ≤ j → j < n → p j = true := by
  unfold allFrom
  rw [List.all_eq_true]
  constructor
  · intro h j h1 h2
    exact h j (by rw [List.mem_range'_1]; omega)
  · intro h j hj
    rw [List.mem_range'_1] at hj
    exact h j hj.1 (by omega)
theorem itd_pos {α : Type} {p : Prop} [Decidable p] (h : p) {a b : α} : (if decide p = true then a else b) = a := if_pos (decide_eq_true h)
theorem itd_neg {α : Type} {p : Prop} [Decidable p] (h : ¬ p) {a b : α} : (if decide p = true then a else b) = b := if_neg (by rw [decide_eq_false h]; decide)
/-- The places from i on, below n, that p holds of. -/
def filtFrom (n i : Nat) (p : Nat → Bool) : List Int := ((List.range' i (n - i)).filter p).map (fun j : Nat => (j : Int))
theorem filtFrom_end {n i : Nat} {p : Nat → Bool} (h : n ≤ i) : filtFrom n i p = [] := by
  unfold filtFrom
  rw [show n - i = 0 by omega]; rfl
theorem filtFrom_yes {n i : Nat} {p : Nat → Bool} (h : i < n) (hp : p i = true) : filtFrom n i p = (i : Int) :: filtFrom n (i + 1) p := by
  unfold filtFrom
  rw [show n - i = (n - (i + 1)) + 1 by omega, List.range'_succ, List.filter_cons, if_pos hp, List.map_cons]
theorem filtFrom_no {n i : Nat} {p : Nat → Bool} (h : i < n) (hp : p i = false) : filtFrom n i p = filtFrom n (i + 1) p := by
  unfold filtFrom
  rw [show n - i = (n - (i + 1)) + 1 by omega, List.range'_succ, List.filter_cons, if_neg (by rw [hp]; decide)]
theorem filtFrom_le {n i : Nat} {p : Nat → Bool} : (filtFrom n i p).length ≤ n - i := by
  unfold filtFrom
  rw [List.length_map]
  exact Nat.le_trans (List.length_filter_le _ _) (by simp)
theorem mem_filtFrom {n i : Nat} {p : Nat → Bool} {x : Int} : x ∈ filtFrom n i p ↔ ∃ j : Nat, i ≤ j ∧ j < n ∧ p j = true ∧ x = (j : Int) := by
  unfold filtFrom
  simp only [List.mem_map, List.mem_filter, List.mem_range'_1]
  constructor
  · rintro ⟨j, ⟨⟨h1, h2⟩, h3⟩, rfl⟩; exact ⟨j, h1, by omega, h3, rfl⟩
  · rintro ⟨j, h1, h2, h3, rfl⟩; exact ⟨j, ⟨⟨h1, by omega⟩, h3⟩, rfl⟩
theorem wrap_sc {i : Nat} (h : i < 9223372036854775807) : wrap64 ((i : Int) + 1) = ((i + 1 : Nat) : Int) := by unfold wrap64; omega
theorem rd_nat' {xs : List Int} {i : Nat} : rd xs (i : Int) = xs.getD i 0 := by unfold rd; rw [Int.toNat_natCast]
theorem getD_zero' {α : Type} {xs : List α} {d : α} : xs.getD (0 : Int).toNat d = xs.getD 0 d := rfl
theorem Bool.ite_tf (b : Bool) : (if b = true then true else false) = b := by cases b <;> rfl
theorem ev_ite {α : Type} {c : Prop} [Decidable c] {g h : Nat → Option α} {r s : α} (h1 : c → Ev g r) (h2 : ¬ c → Ev h s) : Ev (fun k => if c then g k else h k) (if c then r else s) := by
  by_cases hc : c
  · simp only [if_pos hc]; exact h1 hc
  · simp only [if_neg hc]; exact h2 hc
theorem Ev.ifp {α : Type} {c : Prop} [Decidable c] {g h : Nat → Option α} {r : α} (hc : c) (e : Ev g r) : Ev (fun k => if c then g k else h k) r := by simp only [if_pos hc]; exact e
theorem Ev.ifn {α : Type} {c : Prop} [Decidable c] {g h : Nat → Option α} {r : α} (hc : ¬ c) (e : Ev h r) : Ev (fun k => if c then g k else h k) r := by simp only [if_neg hc]; exact e
theorem ev_ite' {α : Type} {c : Prop} [Decidable c] {g h : Nat → Option α} {r : α} (h1 : c → Ev g r) (h2 : ¬ c → Ev h r) : Ev (fun k => if c then g k else h k) r := by
  by_cases hc : c
  · simp only [if_pos hc]; exact h1 hc
  · simp only [if_neg hc]; exact h2 hc

/-! #### Ints -/
theorem szIntS_f (l : List Int) (b : Int) (h : l.length ≤ 9223372036854775807) (h0 : 0 ≤ b) (h1 : b ≤ 1048576) : laws_szIntS.f l b = some (if (l.length : Int) ≤ b then b - (l.length : Int) else -1) := by
  unfold laws_szIntS.f
  rw [wrap_id (by omega) (by omega)]
  split <;> split <;> first | rfl | omega
theorem toIntS_l0 (xs : List Int) (hn : xs.length ≤ 1048576) : ∀ (d i : Nat) (ys zs : List Int), i + d = xs.length → ys.length = i → zs.length = d → ys = xs.take i → Ev (fun k => laws_toIntS.l0 k xs (ys ++ zs) i) xs
  | 0, i, ys, zs, h, hy, hz, e => Ev.unroll (by
      simp only [laws_toIntS.l0]
      simp only [if_neg (show ¬ (i : Int) < xs.length by omega)]
      obtain rfl := List.length_eq_zero_iff.1 hz
      rw [e, List.take_of_length_le (by omega), List.append_nil]
      exact Ev.now _)
  | d + 1, i, ys, zs, h, hy, hz, e => Ev.unroll (by
      have hi : i < xs.length := by omega
      simp only [laws_toIntS.l0]
      simp only [if_pos (show (i : Int) < xs.length by omega), if_pos (show (0 : Int) ≤ i by omega), if_pos (show (i : Int) < (ys ++ zs).length by simp; omega), wrap_succ hi (by unfold BIG; omega), rd_nat hi, Int.toNat_natCast]
      rw [fill_step ys zs _ hy.symm (by omega)]
      exact toIntS_l0 xs hn d (i + 1) _ _ (by omega) (by simp; omega) (by simp; omega) (by rw [List.take_succ_eq_append_getElem hi, ← e]))
theorem toIntS_f (l : List Int) (h : l.length ≤ 1048576) : Ev (fun k => laws_toIntS.f k l) l := by
  unfold laws_toIntS.f
  simp only [if_pos (show (0 : Int) ≤ l.length by omega), if_pos (show (l.length : Int).toNat ≤ 35184372088832 by omega)]
  rw [Int.toNat_natCast]
  exact toIntS_l0 l h l.length 0 [] _ (by omega) rfl (by simp) rfl

/-! #### EqInts -/
theorem eqIntS_l0 (xs : List Int) (hn : xs.length ≤ BIG) : ∀ (d i : Nat), i + d = xs.length → Ev (fun k => laws_eqIntS.l0 k xs xs i) true
  | 0, i, h => Ev.unroll (by
      simp only [laws_eqIntS.l0]
      simp only [if_neg (show ¬ (i : Int) < xs.length by omega)]
      exact Ev.now _)
  | d + 1, i, h => Ev.unroll (by
      have hi : i < xs.length := by omega
      simp only [laws_eqIntS.l0]
      simp only [if_pos (show (i : Int) < xs.length by omega), if_pos (show (0 : Int) ≤ i by omega), wrap_succ hi hn, if_true]
      exact eqIntS_l0 xs hn d (i + 1) (by omega))
theorem eqIntS_f (l : List Int) (h : l.length ≤ BIG) : Ev (fun k => laws_eqIntS.f k l l) true := by
  unfold laws_eqIntS.f
  simp only [if_true]
  exact eqIntS_l0 l h l.length 0 (by omega)

/-! #### FloorArg -/
theorem szFloor_f (w h : Int) (l : List Int) (b : Int) (hl : l.length ≤ 9223372036854775807) (h0 : 0 ≤ b) (h1 : b ≤ 1048576) : laws_szFloor.f w h l b = some (if (l.length : Int) ≤ b then b - (l.length : Int) else -1) := by
  unfold laws_szFloor.f
  rw [szIntS_f l b hl h0 h1, some_bind]
  split <;> split <;> first | rfl | omega
theorem toFloor_f (w h : Int) (l : List Int) (hl : l.length ≤ 1048576) : Ev (fun k => laws_toFloor.f k w h l) (w, h, l) := by
  unfold laws_toFloor.f
  exact Ev.bind (toIntS_f l hl) (Ev.now _)
theorem eqFloor_f (w h : Int) (l : List Int) (hl : l.length ≤ BIG) : Ev (fun k => laws_eqFloor.f k w h l w h l) true := by
  unfold laws_eqFloor.f
  simp only [if_true]
  exact Ev.bind (eqIntS_f l hl) (Ev.now _)

/-! #### Robots -/
theorem szRobotS_f (l : List S129) (b : Int) (h : l.length ≤ 9223372036854775807) (h0 : 0 ≤ b) (h1 : b ≤ 1048576) : laws_szRobotS.f l b = some (if (l.length : Int) ≤ b then b - (l.length : Int) else -1) := by
  unfold laws_szRobotS.f
  rw [wrap_id (by omega) (by omega)]
  split <;> split <;> first | rfl | omega
def mkRobot (a : S129) : S34 := ⟨a.f0, a.f1, a.f2, a.f3, a.f4⟩
theorem toRobotS_l0 (xs : List S129) (hn : xs.length ≤ 1048576) : ∀ (d i : Nat) (ys zs : List S34), i + d = xs.length → ys.length = i → zs.length = d → ys = (xs.take i).map mkRobot →
    Ev (fun k => laws_toRobotS.l0 k xs (ys ++ zs) i) (xs.map mkRobot)
  | 0, i, ys, zs, h, hy, hz, e => Ev.unroll (by
      simp only [laws_toRobotS.l0]
      simp only [if_neg (show ¬ (i : Int) < xs.length by omega)]
      obtain rfl := List.length_eq_zero_iff.1 hz
      rw [e, List.take_of_length_le (by omega), List.append_nil]
      exact Ev.now _)
  | d + 1, i, ys, zs, h, hy, hz, e => Ev.unroll (by
      have hi : i < xs.length := by omega
      simp only [laws_toRobotS.l0, laws_toRobot.f, some_bind]
      simp only [if_pos (show (i : Int) < xs.length by omega), if_pos (show (0 : Int) ≤ i by omega), if_pos (show (i : Int) < (ys ++ zs).length by simp; omega), wrap_succ hi (by unfold BIG; omega), rd_T129, Int.toNat_natCast, getD_at hi]
      rw [fill_step ys zs _ hy.symm (by omega)]
      exact toRobotS_l0 xs hn d (i + 1) _ _ (by omega) (by simp; omega) (by simp; omega) (by rw [List.take_succ_eq_append_getElem hi, List.map_append, ← e]; rfl))
theorem toRobotS_f (l : List S129) (h : l.length ≤ 1048576) : Ev (fun k => laws_toRobotS.f k l) (l.map mkRobot) := by
  unfold laws_toRobotS.f
  simp only [if_pos (show (0 : Int) ≤ l.length by omega), if_pos (show (l.length : Int).toNat ≤ 7036874417766 by omega)]
  rw [Int.toNat_natCast]
  exact toRobotS_l0 l h l.length 0 [] _ (by omega) rfl (by simp) rfl
theorem eqRobot_f (r : S34) : laws_eqRobot.f r.f0 r.f1 r.f2 r.f3 r.f4 r.f0 r.f1 r.f2 r.f3 r.f4 = some true := by
  unfold laws_eqRobot.f
  simp
theorem eqRobotS_l0 (xs : List S34) (hn : xs.length ≤ BIG) : ∀ (d i : Nat), i + d = xs.length → Ev (fun k => laws_eqRobotS.l0 k xs xs i) true
  | 0, i, h => Ev.unroll (by
      simp only [laws_eqRobotS.l0]
      simp only [if_neg (show ¬ (i : Int) < xs.length by omega)]
      exact Ev.now _)
  | d + 1, i, h => Ev.unroll (by
      have hi : i < xs.length := by omega
      simp only [laws_eqRobotS.l0, eqRobot_f, some_bind]
      simp only [if_pos (show (i : Int) < xs.length by omega), if_pos (show (0 : Int) ≤ i by omega), wrap_succ hi hn, if_true]
      exact eqRobotS_l0 xs hn d (i + 1) (by omega))
theorem eqRobotS_f (l : List S34) (h : l.length ≤ BIG) : Ev (fun k => laws_eqRobotS.f k l l) true := by
  unfold laws_eqRobotS.f
  simp only [if_true]
  exact eqRobotS_l0 l h l.length 0 (by omega)

/-! #### In -/
/-- Between two bounds. -/
def inB (a b c : Int) : Bool := decide (b ≤ a ∧ a ≤ c)
theorem inB_iff {a b c : Int} : inB a b c = true ↔ b ≤ a ∧ a ≤ c := by unfold inB; exact decide_eq_true_iff
theorem inB_no {a b c : Int} : inB a b c = false ↔ ¬ (b ≤ a ∧ a ≤ c) := by rw [← inB_iff]; simp
theorem impl_in_f (a b c : Int) : impl_in.f a b c = some (inB a b c) := by
  unfold impl_in.f inB
  by_cases h : b ≤ a <;> by_cases h2 : a ≤ c <;> simp [h, h2]
theorem spec_l1In_f (a b c : Int) : spec_l1In.f a b c = some (inB a b c) := by
  unfold spec_l1In.f inB
  by_cases h : b ≤ a <;> by_cases h2 : a ≤ c <;> simp [h, h2]

/-! #### FloorOk -/
def kindsOk (cs : List Int) (i : Nat) : Bool := allFrom cs.length i (fun j => inB (cs.getD j 0) 0 4)
def floorOk (w h : Int) (cs : List Int) : Bool := inB w 1 10 && inB h 1 10 && decide ((cs.length : Int) = w * h) && kindsOk cs 0
theorem spec_FloorOk_l0 (w h : Int) (cs : List Int) (hn : cs.length ≤ BIG) : ∀ (d i : Nat), i + d = cs.length → Ev (fun k => spec_FloorOk.l0 k i w h cs) (kindsOk cs i)
  | 0, i, e => Ev.unroll (by
      simp only [spec_FloorOk.l0]
      simp only [if_neg (show ¬ (i : Int) < cs.length by omega)]
      exact Ev.fin (allFrom_end (by omega)).symm)
  | d + 1, i, e => Ev.unroll (by
      have hi : i < cs.length := by omega
      simp only [spec_FloorOk.l0, spec_l1In_f, some_bind]
      simp only [if_pos (show (i : Int) < cs.length by omega), if_pos (show (0 : Int) ≤ i by omega), wrap_succ hi hn, rd, Int.toNat_natCast]
      by_cases h1 : inB (cs.getD i 0) 0 4 = true
      · simp only [if_pos h1]
        rw [show kindsOk cs i = kindsOk cs (i + 1) from allFrom_yes hi h1]
        exact spec_FloorOk_l0 w h cs hn d (i + 1) (by omega)
      · simp only [if_neg h1]
        exact Ev.fin (allFrom_no hi (by simpa using h1)).symm)
theorem impl_FloorOk_l0 (cs : List Int) (hn : cs.length ≤ BIG) : ∀ (d i : Nat), i + d = cs.length → Ev (fun k => impl_FloorOk.l0 k cs cs.length i) (kindsOk cs i)
  | 0, i, e => Ev.unroll (by
      simp only [impl_FloorOk.l0]
      simp only [if_neg (show ¬ (i : Int) < cs.length by omega)]
      exact Ev.fin (allFrom_end (by omega)).symm)
  | d + 1, i, e => Ev.unroll (by
      have hi : i < cs.length := by omega
      simp only [impl_FloorOk.l0, impl_in_f, some_bind]
      simp only [if_pos (show (i : Int) < cs.length by omega), if_pos (show (0 : Int) ≤ i by omega), wrap_succ hi hn, rd, Int.toNat_natCast]
      by_cases h1 : inB (cs.getD i 0) 0 4 = true
      · simp only [if_pos h1]
        rw [show kindsOk cs i = kindsOk cs (i + 1) from allFrom_yes hi h1]
        exact impl_FloorOk_l0 cs hn d (i + 1) (by omega)
      · simp only [if_neg h1]
        exact Ev.fin (allFrom_no hi (by simpa using h1)).symm)
theorem inB_mul {w h : Int} (h1 : inB w 1 10 = true) (h2 : inB h 1 10 = true) : wrap64 (w * h) = w * h ∧ 1 ≤ w * h ∧ w * h ≤ 100 := by
  obtain ⟨a, b⟩ := inB_iff.1 h1
  obtain ⟨c, d⟩ := inB_iff.1 h2
  have e1 : 1 * 1 ≤ w * h := Int.mul_le_mul a c (by omega) (by omega)
  have e2 : w * h ≤ 10 * 10 := Int.mul_le_mul b d (by omega) (by omega)
  exact ⟨wrap_id (by omega) (by omega), by omega, by omega⟩
theorem spec_FloorOk_f (w h : Int) (cs : List Int) (hn : cs.length ≤ BIG) : Ev (fun k => spec_FloorOk.f k w h cs) (floorOk w h cs) := by
  unfold spec_FloorOk.f floorOk
  simp only [spec_l1In_f, some_bind]
  by_cases h1 : inB w 1 10 = true
  · simp only [if_pos h1]
    by_cases h2 : inB h 1 10 = true
    · simp only [if_pos h2, (inB_mul h1 h2).1]
      refine Ev.unroll ?_
      simp only [spec_FloorOk.j0]
      by_cases h3 : (cs.length : Int) = w * h
      · simp only [h3, bne_self_eq_false, Bool.false_eq_true, if_false, h1, h2, Bool.true_and, decide_true]
        exact spec_FloorOk_l0 w h cs hn cs.length 0 (by omega)
      · simp only [if_pos (show ((cs.length : Int) != w * h) = true by simpa using h3)]
        exact Ev.fin (by simp [h3])
    · simp only [if_neg h2]
      refine Ev.unroll ?_
      simp only [spec_FloorOk.j0, if_true]
      exact Ev.fin (by rw [Bool.not_eq_true] at h2; rw [h2]; simp)
  · simp only [if_neg h1]
    refine Ev.unroll ?_
    simp only [spec_FloorOk.j0, if_true]
    exact Ev.fin (by rw [Bool.not_eq_true] at h1; rw [h1]; simp)
theorem impl_FloorOk_f (w h : Int) (cs : List Int) (hn : cs.length ≤ BIG) : Ev (fun k => impl_FloorOk.f k w h cs) (floorOk w h cs) := by
  unfold impl_FloorOk.f floorOk
  simp only [impl_in_f, some_bind]
  by_cases h1 : inB w 1 10 = true
  · simp only [if_pos h1]
    by_cases h2 : inB h 1 10 = true
    · simp only [if_pos h2, (inB_mul h1 h2).1]
      refine Ev.unroll ?_
      simp only [impl_FloorOk.j0]
      by_cases h3 : (cs.length : Int) = w * h
      · simp only [h3, bne_self_eq_false, Bool.false_eq_true, if_false, h1, h2, Bool.true_and, decide_true]
        rw [← h3]
        exact impl_FloorOk_l0 cs hn cs.length 0 (by omega)
      · simp only [if_pos (show ((cs.length : Int) != w * h) = true by simpa using h3)]
        exact Ev.fin (by simp [h3])
    · simp only [if_neg h2]
      refine Ev.unroll ?_
      simp only [impl_FloorOk.j0, if_true]
      exact Ev.fin (by rw [Bool.not_eq_true] at h2; rw [h2]; simp)
  · simp only [if_neg h1]
    refine Ev.unroll ?_
    simp only [impl_FloorOk.j0, if_true]
    exact Ev.fin (by rw [Bool.not_eq_true] at h1; rw [h1]; simp)

/-! #### Cell -/
theorem impl_isCell_f (w h : Int) (cs : List Int) (c : Int) (hn : cs.length ≤ BIG) : impl_isCell.f w h cs c = some (inB c 0 ((cs.length : Int) - 1)) := by
  unfold impl_isCell.f
  unfold BIG at hn
  rw [wrap_id (by omega) (by omega), impl_in_f]
  rfl

/-! #### KindAt -/
/-- The kind of a cell: 0 where there is none. -/
def kindAt (w h : Int) (cs : List Int) (c : Int) : Int := if (floorOk w h cs && inB c 0 ((cs.length : Int) - 1)) = true then cs.getD c.toNat 0 else 0
theorem impl_KindAt_f (w h : Int) (cs : List Int) (c : Int) (hn : cs.length ≤ BIG) : Ev (fun k => impl_KindAt.f k w h cs c) (kindAt w h cs c) := by
  unfold impl_KindAt.f kindAt
  refine Ev.bind (impl_FloorOk_f w h cs hn) ?_
  by_cases h1 : floorOk w h cs = true
  · simp only [if_pos h1, impl_isCell_f w h cs c hn, some_bind]
    by_cases h2 : inB c 0 ((cs.length : Int) - 1) = true
    · have h3 := inB_iff.1 h2
      simp only [if_pos h2, if_pos (show 0 ≤ c by omega), if_pos (show c < (cs.length : Int) by omega), h1, h2, Bool.true_and, if_true]
      exact Ev.now _
    · simp only [if_neg h2, h1, Bool.true_and]
      exact Ev.now _
  · simp only [if_neg h1]
    rw [Bool.not_eq_true] at h1
    exact Ev.fin (by rw [h1]; rfl)

/-! #### KindRd -/
theorem kindAt_rd {w h : Int} {cs : List Int} {c : Int} (hf : floorOk w h cs = true) (h0 : 0 ≤ c) (h1 : c < (cs.length : Int)) : kindAt w h cs c = rd cs c := by
  unfold kindAt
  rw [if_pos (by rw [hf, Bool.true_and, inB_iff]; omega)]; rfl

/-! #### Near -/
/-- The cells beside one: above, left, right, below. -/
def besideL (w h c : Int) : List Int :=
  (if c / w > 0 then [c - w] else []) ++ ((if c % w > 0 then [c - 1] else []) ++ ((if c % w < w - 1 then [c + 1] else []) ++ (if c / w < h - 1 then [c + w] else [])))
theorem besideL_le (w h c : Int) : (besideL w h c).length ≤ 4 := by
  unfold besideL
  split <;> split <;> split <;> split <;> simp
/-- A floor's bounds. -/
structure Fits (w h c : Int) : Prop where
  w1 : 1 ≤ w
  w2 : w ≤ 10
  h1 : 1 ≤ h
  h2 : h ≤ 10
  c1 : 0 ≤ c
  c2 : c < w * h
theorem Fits.area {w h c : Int} (f : Fits w h c) : w * h ≤ 100 := by
  have e2 : w * h ≤ 10 * 10 := Int.mul_le_mul f.w2 f.h2 (by have := f.h1; omega) (by omega)
  omega
theorem Fits.quot {w h c : Int} (f : Fits w h c) : 0 ≤ c / w ∧ c / w < h ∧ c = w * (c / w) + c % w ∧ 0 ≤ c % w ∧ c % w < w := by
  refine ⟨Int.ediv_nonneg f.c1 (by have := f.w1; omega), ?_, (Int.mul_ediv_add_emod c w).symm, Int.emod_nonneg _ (by have := f.w1; omega), Int.emod_lt_of_pos _ (by have := f.w1; omega)⟩
  apply Int.ediv_lt_of_lt_mul (by have := f.w1; omega)
  have := f.c2
  rw [Int.mul_comm]; exact this
theorem Fits.tdiv {w h c : Int} (f : Fits w h c) : wrap64 (Int.tdiv c w) = c / w := by
  have q := f.quot; have a := f.h2
  rw [Int.tdiv_eq_ediv_of_nonneg f.c1, wrap_id (by omega) (by omega)]
theorem Fits.tmod {w h c : Int} (f : Fits w h c) : Int.tmod c w = c % w := Int.tmod_eq_emod_of_nonneg f.c1
theorem mem_besideL {w h c x : Int} (f : Fits w h c) (hx : x ∈ besideL w h c) : 0 ≤ x ∧ x < w * h := by
  obtain ⟨q1, q2, q3, q4, q5⟩ := f.quot
  have hc := f.c2; have hw := f.w1
  unfold besideL at hx
  simp only [List.mem_append] at hx
  have up : c / w > 0 → w ≤ w * (c / w) := fun h => by have := Int.mul_le_mul_of_nonneg_left (show (1 : Int) ≤ c / w by omega) (show 0 ≤ w by omega); rw [Int.mul_one] at this; exact this
  have down : c / w < h - 1 → w * (c / w) + w * 2 ≤ w * h := fun hh => by
    have := Int.mul_le_mul_of_nonneg_left (show c / w + 2 ≤ h by omega) (show 0 ≤ w by omega)
    rw [Int.mul_add] at this; exact this
  have right : w * (c / w) + w ≤ w * h := by
    have := Int.mul_le_mul_of_nonneg_left (show c / w + 1 ≤ h by omega) (show 0 ≤ w by omega)
    rw [Int.mul_add, Int.mul_one] at this; exact this
  have hm0 : 0 ≤ w * (c / w) := Int.mul_nonneg (by omega) q1
  generalize w * (c / w) = m at *
  generalize w * h = n at *
  generalize c % w = r at *
  generalize c / w = q at *
  rcases hx with hx | hx | hx | hx <;> split at hx <;> simp only [List.mem_singleton, List.not_mem_nil] at hx
  · rename_i g; have := up g; omega
  · omega
  · omega
  · rename_i g; have := down g; omega
/-- The cells beside one where one may go. -/
def nearL (w h : Int) (cs : List Int) (c : Int) (loaded : Bool) : List Int := (besideL w h c).filter (fun x => !(rd cs x == 0) && !(loaded && rd cs x == 2))
theorem nearL_le (w h : Int) (cs : List Int) (c : Int) (loaded : Bool) : (nearL w h cs c loaded).length ≤ 4 := Nat.le_trans (List.length_filter_le _ _) (besideL_le w h c)
theorem mem_nearL {w h : Int} {cs : List Int} {c x : Int} {loaded : Bool} : x ∈ nearL w h cs c loaded ↔ x ∈ besideL w h c ∧ rd cs x ≠ 0 ∧ (loaded = true → rd cs x ≠ 2) := by
  unfold nearL
  rw [List.mem_filter]
  cases loaded <;> simp

/-! #### Turned0 -/
theorem floorOk_size {w h : Int} {cs : List Int} (h1 : floorOk w h cs = true) : 1 ≤ w ∧ w ≤ 10 ∧ 1 ≤ h ∧ h ≤ 10 ∧ (cs.length : Int) = w * h := by
  unfold floorOk at h1
  simp only [Bool.and_eq_true, inB_iff, decide_eq_true_eq] at h1
  exact ⟨h1.1.1.1.1, h1.1.1.1.2, h1.1.1.2.1, h1.1.1.2.2, h1.1.2⟩
theorem floorOk_area {w h : Int} {cs : List Int} (h1 : floorOk w h cs = true) : cs.length ≤ 100 := by
  obtain ⟨a1, a2, a3, a4, a5⟩ := floorOk_size h1
  have e2 : w * h ≤ 10 * 10 := Int.mul_le_mul a2 a4 (by omega) (by omega)
  omega

/-! #### CrewOk -/
/-! A crew that is right. -/
def robAt (l : List S34) (j : Nat) : S34 := l.getD j z34
def cellB (cs : List Int) (c : Int) : Bool := inB c 0 ((cs.length : Int) - 1) && !decide (rd cs c = 0)
def robotOk (cs : List Int) (r : S34) : Bool := inB r.f0 1 99 && (cellB cs r.f1 && ((decide (r.f2 = -1) || cellB cs r.f2) && inB r.f4 0 1000000))
def notThere (l : List S34) (i : Nat) : Nat → Bool := fun k => !decide ((robAt l k).f1 = (robAt l i).f1)
def robotAtOk (cs : List Int) (l : List S34) (i : Nat) : Bool := robotOk cs (robAt l i) && ((decide (i = 0) || decide ((robAt l (i - 1)).f0 < (robAt l i).f0)) && allFrom i 0 (notThere l i))
def crewOk (w h : Int) (cs : List Int) (l : List S34) : Bool := floorOk w h cs && (decide (l.length ≤ 20) && allFrom l.length 0 (robotAtOk cs l))
theorem rd_rob {l : List S34} {i : Nat} : rd_T34 l (i : Int) = robAt l i := by unfold rd_T34 robAt; rw [Int.toNat_natCast]
theorem wrap_pr {i : Nat} (h : i < 9223372036854775807) (h0 : 0 < i) : wrap64 ((i : Int) - 1) = ((i - 1 : Nat) : Int) := by unfold wrap64; omega
theorem spec_l7Free_f (w h : Int) (cs : List Int) (c : Int) (hn : cs.length ≤ 1048576) : spec_l7Free.f w h cs c = some (cellB cs c) := by
  unfold spec_l7Free.f cellB
  rw [wrap_id (by omega) (by omega), spec_l1In_f, some_bind]
  by_cases h1 : inB c 0 ((cs.length : Int) - 1) = true
  · have := inB_iff.1 h1
    rw [if_pos h1, if_pos this.1, if_pos (by omega), h1, Bool.true_and]
    congr 1
  · rw [if_neg h1]
    rw [Bool.not_eq_true] at h1
    rw [h1]; rfl
theorem cellB_kind {w h : Int} {cs : List Int} (hf : floorOk w h cs = true) (c : Int) : kindAt w h cs c = 0 ↔ cellB cs c = false := by
  unfold cellB
  by_cases h1 : inB c 0 ((cs.length : Int) - 1) = true
  · have := inB_iff.1 h1
    rw [kindAt_rd hf this.1 (by omega), h1, Bool.true_and]
    simp
  · have : kindAt w h cs c = 0 := by unfold kindAt; rw [if_neg (by simp [hf, h1])]
    rw [Bool.not_eq_true] at h1
    rw [this, h1]; simp
theorem impl_standsOk_f (w h : Int) (cs : List Int) (r : S34) (hf : floorOk w h cs = true) : Ev (fun k => impl_standsOk.f k w h cs r.f0 r.f1 r.f2 r.f3 r.f4) (cellB cs r.f1 && (decide (r.f2 = -1) || cellB cs r.f2)) := by
  have ha := floorOk_area hf
  have hB : cs.length ≤ BIG := by unfold BIG; omega
  have k1 := cellB_kind hf r.f1
  have k2 := cellB_kind hf r.f2
  unfold impl_standsOk.f
  refine Ev.bind (impl_KindAt_f w h cs r.f1 hB) ?_
  by_cases h1 : kindAt w h cs r.f1 = 0
  · rw [k1.1 h1]
    exact Ev.ifp h1 (Ev.now _)
  · have e1 : cellB cs r.f1 = true := by cases e : cellB cs r.f1; exact absurd (k1.2 e) h1; rfl
    rw [e1, Bool.true_and]
    refine Ev.ifn h1 ?_
    by_cases h2 : r.f2 = -1
    · rw [decide_eq_true h2]
      exact Ev.ifp h2 (Ev.now _)
    · rw [decide_eq_false h2, Bool.false_or]
      refine Ev.ifn h2 (Ev.bind (impl_KindAt_f w h cs r.f2 hB) (Ev.fin ?_))
      by_cases h3 : kindAt w h cs r.f2 = 0
      · rw [k2.1 h3, h3]; rfl
      · have e2 : cellB cs r.f2 = true := by cases e : cellB cs r.f2; exact absurd (k2.2 e) h3; rfl
        rw [e2]; simp [h3]
theorem impl_CrewOk_l1 (w h : Int) (cs : List Int) (l ys : List S34) (i : Nat) (hn : l.length ≤ 20) (hi : i < l.length) (hy : ys = l.take i) (R : Bool) (hR : Ev (fun k => impl_CrewOk.l0 k l l l.length ((i + 1 : Nat) : Int) w h cs) R) : ∀ (d j : Nat), j + d = i → Ev (fun k => impl_CrewOk.l1 k l l l.length i ys ys.length j w h cs (robAt l i).f0 (robAt l i).f1 (robAt l i).f2 (robAt l i).f3 (robAt l i).f4) (allFrom i j (notThere l i) && R)
  | 0, j, e => Ev.unroll (by
      have hl : ys.length = i := by rw [hy]; simp; omega
      simp only [impl_CrewOk.l1, wrap_sc (show i < 9223372036854775807 by omega)]
      rw [allFrom_end (by omega), Bool.true_and]
      exact Ev.ifn (by omega) hR)
  | d + 1, j, e => Ev.unroll (by
      have hl : ys.length = i := by rw [hy]; simp; omega
      have hj : robAt ys j = robAt l j := by unfold robAt; rw [getD_at (by omega), getD_at (by omega)]; simp [hy]
      have ih := impl_CrewOk_l1 w h cs l ys i hn hi hy R hR d (j + 1) (by omega)
      simp only [impl_CrewOk.l1, rd_rob, wrap_sc (show j < 9223372036854775807 by omega)]
      rw [allFrom_step (by omega), hj]
      refine Ev.ifp (by omega) (Ev.ifp (by omega) (Ev.ifp (by omega) ?_))
      refine ev_ite' (fun h1 => Ev.fin ?_) (fun h1 => ?_)
      · unfold notThere; rw [decide_eq_true h1]; rfl
      · rw [show notThere l i j = true by unfold notThere; rw [decide_eq_false h1]; rfl, Bool.true_and]
        exact ih)
theorem impl_CrewOk_l0 (w h : Int) (cs : List Int) (hf : floorOk w h cs = true) (l : List S34) (hn : l.length ≤ 20) : ∀ (d i : Nat), i + d = l.length → Ev (fun k => impl_CrewOk.l0 k l l l.length i w h cs) (allFrom l.length i (robotAtOk cs l))
  | 0, i, e => Ev.unroll (by
      simp only [impl_CrewOk.l0]
      exact Ev.ifn (by omega) (Ev.fin (allFrom_end (by omega)).symm))
  | d + 1, i, e => Ev.unroll (by
      have hi : i < l.length := by omega
      have ih := impl_CrewOk_l0 w h cs hf l hn d (i + 1) (by omega)
      have st := impl_standsOk_f w h cs (robAt l i) hf
      simp only [impl_CrewOk.l0, impl_in_f, some_bind, rd_rob]
      rw [allFrom_step hi]
      have no : robotAtOk cs l i = false → Ev (fun k => impl_CrewOk.j2 k l i l l.length i true w h cs (robAt l i).f0 (robAt l i).f1 (robAt l i).f2 (robAt l i).f3 (robAt l i).f4) (robotAtOk cs l i && allFrom l.length (i + 1) (robotAtOk cs l)) := fun e => Ev.unroll (by
        simp only [impl_CrewOk.j2]
        exact Ev.ifp trivial (Ev.fin (by rw [e]; rfl)))
      have yes : robotOk cs (robAt l i) = true → (i = 0 ∨ (robAt l (i - 1)).f0 < (robAt l i).f0) → Ev (fun k => impl_CrewOk.j2 k l i l l.length i false w h cs (robAt l i).f0 (robAt l i).f1 (robAt l i).f2 (robAt l i).f3 (robAt l i).f4) (robotAtOk cs l i && allFrom l.length (i + 1) (robotAtOk cs l)) := fun e e2 => Ev.unroll (by
        simp only [impl_CrewOk.j2, some_bind, Int.toNat_natCast]
        rw [show robotAtOk cs l i = allFrom i 0 (notThere l i) by unfold robotAtOk; rw [e, Bool.true_and, show (decide (i = 0) || decide ((robAt l (i - 1)).f0 < (robAt l i).f0)) = true by rcases e2 with h | h <;> simp [h], Bool.true_and]]
        exact Ev.ifn (by simp) (Ev.ifp (by omega) (Ev.ifp (by omega) (impl_CrewOk_l1 w h cs l _ i hn hi rfl _ ih i 0 (by omega)))))
      have rest : inB (robAt l i).f0 1 99 = true → (i = 0 ∨ (robAt l (i - 1)).f0 < (robAt l i).f0) → Ev (fun k => (impl_standsOk.f k w h cs (robAt l i).f0 (robAt l i).f1 (robAt l i).f2 (robAt l i).f3 (robAt l i).f4).bind fun t => if t = true then impl_CrewOk.j2 k l i l l.length i (!inB (robAt l i).f4 0 1000000) w h cs (robAt l i).f0 (robAt l i).f1 (robAt l i).f2 (robAt l i).f3 (robAt l i).f4 else impl_CrewOk.j2 k l i l l.length i true w h cs (robAt l i).f0 (robAt l i).f1 (robAt l i).f2 (robAt l i).f3 (robAt l i).f4) (robotAtOk cs l i && allFrom l.length (i + 1) (robotAtOk cs l)) := fun h1 h2 => by
        refine Ev.bind st (ev_ite' (fun h3 => ?_) (fun h3 => no ?_))
        · rw [Bool.and_eq_true] at h3
          by_cases h4 : inB (robAt l i).f4 0 1000000 = true
          · rw [h4]
            exact yes (by unfold robotOk; rw [h1, h3.1, h3.2, h4]; rfl) h2
          · rw [Bool.not_eq_true] at h4
            rw [h4]
            exact no (by unfold robotAtOk robotOk; rw [h4]; simp)
        · unfold robotAtOk robotOk
          rw [Bool.not_eq_true, Bool.and_eq_false_iff] at h3
          rcases h3 with h3 | h3 <;> rw [h3] <;> simp
      refine Ev.ifp (by omega) (Ev.ifp (by omega) (Ev.ifp (by omega) (ev_ite' (fun h1 => ?_) (fun h1 => no ?_))))
      · by_cases h0 : 0 < i
        · rw [wrap_pr (by omega) h0]
          simp only [rd_rob]
          refine Ev.ifp (by omega) (Ev.ifp (by omega) (Ev.ifp (by omega) (ev_ite' (fun h4 => no ?_) (fun h4 => rest h1 (Or.inr (by omega))))))
          unfold robotAtOk; rw [decide_eq_false (by omega), decide_eq_false (by omega)]; simp
        · exact Ev.ifn (by omega) (rest h1 (Or.inl (by omega)))
      · unfold robotAtOk robotOk; rw [Bool.not_eq_true] at h1; rw [h1]; simp)
theorem impl_CrewOk_f (w h : Int) (cs : List Int) (l : List S34) (hn : cs.length ≤ BIG) : Ev (fun k => impl_CrewOk.f k w h cs l) (crewOk w h cs l) := by
  unfold impl_CrewOk.f crewOk
  refine Ev.bind (impl_FloorOk_f w h cs hn) ?_
  by_cases hf : floorOk w h cs = true
  · refine Ev.ifp hf (Ev.unroll ?_)
    rw [hf, Bool.true_and]
    by_cases h20 : l.length ≤ 20
    · simp only [impl_CrewOk.j0, decide_eq_true h20, decide_eq_false (show ¬ ((l.length : Int) > 20) by omega), Bool.true_and]
      exact Ev.ifn (by simp) (impl_CrewOk_l0 w h cs hf l h20 l.length 0 (by omega))
    · simp only [impl_CrewOk.j0, decide_eq_false h20, decide_eq_true (show ((l.length : Int) > 20) by omega), Bool.false_and]
      exact Ev.ifp trivial (Ev.now _)
  · refine Ev.ifn hf (Ev.unroll ?_)
    rw [Bool.not_eq_true] at hf
    simp only [impl_CrewOk.j0, hf, Bool.false_and]
    exact Ev.ifp trivial (Ev.now _)
theorem spec_CrewOk_l1 (w h : Int) (cs : List Int) (l : List S34) (i : Nat) (hn : l.length ≤ 20) (hi : i < l.length) (R : Bool) (hR : Ev (fun k => spec_CrewOk.l0 k l ((i + 1 : Nat) : Int) w h cs) R) : ∀ (d j : Nat), j + d = i → Ev (fun k => spec_CrewOk.l1 k l i j w h cs (robAt l i).f0 (robAt l i).f1 (robAt l i).f2 (robAt l i).f3 (robAt l i).f4) (allFrom i j (notThere l i) && R)
  | 0, j, e => Ev.unroll (by
      simp only [spec_CrewOk.l1, wrap_sc (show i < 9223372036854775807 by omega)]
      rw [allFrom_end (by omega), Bool.true_and]
      exact Ev.ifn (by omega) hR)
  | d + 1, j, e => Ev.unroll (by
      have ih := spec_CrewOk_l1 w h cs l i hn hi R hR d (j + 1) (by omega)
      simp only [spec_CrewOk.l1, rd_rob, wrap_sc (show j < 9223372036854775807 by omega)]
      rw [allFrom_step (by omega)]
      refine Ev.ifp (by omega) (Ev.ifp (by omega) (Ev.ifp (by omega) ?_))
      refine ev_ite' (fun h1 => Ev.fin ?_) (fun h1 => ?_)
      · unfold notThere; rw [decide_eq_true h1]; rfl
      · rw [show notThere l i j = true by unfold notThere; rw [decide_eq_false h1]; rfl, Bool.true_and]
        exact ih)
theorem spec_CrewOk_l0 (w h : Int) (cs : List Int) (hf : floorOk w h cs = true) (l : List S34) (hn : l.length ≤ 20) : ∀ (d i : Nat), i + d = l.length → Ev (fun k => spec_CrewOk.l0 k l i w h cs) (allFrom l.length i (robotAtOk cs l))
  | 0, i, e => Ev.unroll (by
      simp only [spec_CrewOk.l0]
      exact Ev.ifn (by omega) (Ev.fin (allFrom_end (by omega)).symm))
  | d + 1, i, e => Ev.unroll (by
      have hi : i < l.length := by omega
      have ha := floorOk_area hf
      have ih := spec_CrewOk_l0 w h cs hf l hn d (i + 1) (by omega)
      simp only [spec_CrewOk.l0, spec_l1In_f, some_bind, rd_rob, spec_l7Free_f w h cs _ (show cs.length ≤ 1048576 by omega)]
      rw [allFrom_step hi]
      have no : robotAtOk cs l i = false → Ev (fun k => spec_CrewOk.j2 k l i true w h cs (robAt l i).f0 (robAt l i).f1 (robAt l i).f2 (robAt l i).f3 (robAt l i).f4) (robotAtOk cs l i && allFrom l.length (i + 1) (robotAtOk cs l)) := fun e => Ev.unroll (by
        simp only [spec_CrewOk.j2]
        exact Ev.ifp trivial (Ev.fin (by rw [e]; rfl)))
      have yes : robotOk cs (robAt l i) = true → (i = 0 ∨ (robAt l (i - 1)).f0 < (robAt l i).f0) → Ev (fun k => spec_CrewOk.j2 k l i false w h cs (robAt l i).f0 (robAt l i).f1 (robAt l i).f2 (robAt l i).f3 (robAt l i).f4) (robotAtOk cs l i && allFrom l.length (i + 1) (robotAtOk cs l)) := fun e e2 => Ev.unroll (by
        simp only [spec_CrewOk.j2]
        rw [show robotAtOk cs l i = allFrom i 0 (notThere l i) by unfold robotAtOk; rw [e, Bool.true_and, show (decide (i = 0) || decide ((robAt l (i - 1)).f0 < (robAt l i).f0)) = true by rcases e2 with h | h <;> simp [h], Bool.true_and]]
        exact Ev.ifn (by simp) (spec_CrewOk_l1 w h cs l i hn hi _ ih i 0 (by omega)))
      have last : robotOk cs (robAt l i) = true → Ev (fun k => if (i : Int) > 0 then (if 0 ≤ wrap64 ((i : Int) - 1) then (if wrap64 ((i : Int) - 1) < (l.length : Int) then spec_CrewOk.j2 k l i (decide ((rd_T34 l (wrap64 ((i : Int) - 1))).f0 ≥ (robAt l i).f0)) w h cs (robAt l i).f0 (robAt l i).f1 (robAt l i).f2 (robAt l i).f3 (robAt l i).f4 else none) else none) else spec_CrewOk.j2 k l i false w h cs (robAt l i).f0 (robAt l i).f1 (robAt l i).f2 (robAt l i).f3 (robAt l i).f4) (robotAtOk cs l i && allFrom l.length (i + 1) (robotAtOk cs l)) := fun hok => by
        by_cases h0 : 0 < i
        · rw [wrap_pr (by omega) h0]
          simp only [rd_rob]
          refine Ev.ifp (by omega) (Ev.ifp (by omega) (Ev.ifp (by omega) ?_))
          by_cases h4 : (robAt l (i - 1)).f0 ≥ (robAt l i).f0
          · rw [decide_eq_true h4]
            exact no (by unfold robotAtOk; rw [decide_eq_false (by omega), decide_eq_false (by omega)]; simp)
          · rw [decide_eq_false h4]
            exact yes hok (Or.inr (by omega))
        · exact Ev.ifn (by omega) (yes hok (Or.inl (by omega)))
      refine Ev.ifp (by omega) (Ev.ifp (by omega) (ev_ite' (fun h1 => ev_ite' (fun h2 => ev_ite' (fun h3 => ev_ite' (fun h4 => last ?_) (fun h4 => no ?_)) (fun h3 => ev_ite' (fun h5 => ev_ite' (fun h4 => last ?_) (fun h4 => no ?_)) (fun h5 => no ?_))) (fun h2 => no ?_)) (fun h1 => no ?_)))
      · unfold robotOk; rw [h1, h2, h4, decide_eq_true h3]; rfl
      · unfold robotAtOk robotOk; rw [Bool.not_eq_true] at h4; rw [h4]; simp
      · unfold robotOk; rw [h1, h2, h4, h5]; simp
      · unfold robotAtOk robotOk; rw [Bool.not_eq_true] at h4; rw [h4]; simp
      · unfold robotAtOk robotOk; rw [Bool.not_eq_true] at h5; rw [h5, decide_eq_false h3]; simp
      · unfold robotAtOk robotOk; rw [Bool.not_eq_true] at h2; rw [h2]; simp
      · unfold robotAtOk robotOk; rw [Bool.not_eq_true] at h1; rw [h1]; simp)
theorem spec_CrewOk_f (w h : Int) (cs : List Int) (l : List S34) (hn : cs.length ≤ BIG) : Ev (fun k => spec_CrewOk.f k w h cs l) (crewOk w h cs l) := by
  unfold spec_CrewOk.f crewOk
  refine Ev.bind (spec_FloorOk_f w h cs hn) ?_
  by_cases hf : floorOk w h cs = true
  · refine Ev.ifp hf (Ev.unroll ?_)
    rw [hf, Bool.true_and]
    by_cases h20 : l.length ≤ 20
    · simp only [spec_CrewOk.j0, decide_eq_true h20, decide_eq_false (show ¬ ((l.length : Int) > 20) by omega), Bool.true_and]
      exact Ev.ifn (by simp) (spec_CrewOk_l0 w h cs hf l h20 l.length 0 (by omega))
    · simp only [spec_CrewOk.j0, decide_eq_false h20, decide_eq_true (show ((l.length : Int) > 20) by omega), Bool.false_and]
      exact Ev.ifp trivial (Ev.now _)
  · refine Ev.ifn hf (Ev.unroll ?_)
    rw [Bool.not_eq_true] at hf
    simp only [spec_CrewOk.j0, hf, Bool.false_and]
    exact Ev.ifp trivial (Ev.now _)

/-! #### FnExactCrewOk -/
theorem FnExactCrewOk : ∀ (a0_0 : Int) (a0_1 : Int) (l0_2 : List (Int)) (l1 : List (S129)), (-9223372036854775808 ≤ a0_0 ∧ a0_0 ≤ 9223372036854775807) → (-9223372036854775808 ≤ a0_1 ∧ a0_1 ≤ 9223372036854775807) → (l0_2.length ≤ 9223372036854775807 ∧ ∀ y0 ∈ l0_2, (-9223372036854775808 ≤ y0 ∧ y0 ≤ 9223372036854775807)) → (l1.length ≤ 9223372036854775807 ∧ ∀ y0 ∈ l1, ((-9223372036854775808 ≤ y0.f0 ∧ y0.f0 ≤ 9223372036854775807) ∧ (-9223372036854775808 ≤ y0.f1 ∧ y0.f1 ≤ 9223372036854775807) ∧ (-9223372036854775808 ≤ y0.f2 ∧ y0.f2 ≤ 9223372036854775807) ∧ True ∧ (-9223372036854775808 ≤ y0.f4 ∧ y0.f4 ≤ 9223372036854775807))) → ∃ k, laws_FnExactCrewOk.f k a0_0 a0_1 l0_2 l1 = some true := by
  intro w h l crew _ _ ⟨hl, _⟩ ⟨hc, _⟩
  refine Ev.rounds ?_
  unfold laws_FnExactCrewOk.f
  by_cases hb : (l.length : Int) ≤ 1048576
  · have hl2 : l.length ≤ 1048576 := by omega
    have hB : l.length ≤ BIG := by unfold BIG; omega
    simp (disch := omega) only [szFloor_f w h l _ hl (show (0 : Int) ≤ 1048576 by omega) (by omega), ↓if_pos, ↓if_neg, if_pos, if_neg, decide_eq_true_eq, ↓reduceIte, ↓wrap_sc, wrap_id, some_bind, Int.toNat_natCast, rd_nat', getD_zero', Bool.not_true, Bool.not_false, Bool.false_eq_true, decide_true, decide_false]
    rw [szRobotS_f crew _ hc (show (0 : Int) ≤ 1048576 - (l.length : Int) by omega) (by omega)]
    by_cases hd : (crew.length : Int) ≤ 1048576 - (l.length : Int)
    · rw [if_pos hd]
      have hm : (crew.map mkRobot).length ≤ BIG := by rw [List.length_map]; unfold BIG; omega
      have e1 := toRobotS_f crew (by omega)
      have e2 := spec_CrewOk_f w h l (crew.map mkRobot) hB
      have e3 := impl_CrewOk_f w h l (crew.map mkRobot) hB
      have e4 := eqRobotS_f _ hm
      have e5 := eqFloor_f w h _ hB
      simp only [some_bind]
      repeat (first | exact Ev.now _ | (with_reducible refine Ev.bind (toFloor_f w h l hl2) ?_; try dsimp only) | (with_reducible refine Ev.bind (e1) ?_; try dsimp only) | (with_reducible refine Ev.bind (e2) ?_; try dsimp only) | (with_reducible refine Ev.bind (e3) ?_; try dsimp only) | (with_reducible refine Ev.bind (e4) ?_; try dsimp only) | (with_reducible refine Ev.bind (e5) ?_; try dsimp only) | (with_reducible refine Ev.ifp ?cc ?_; (case cc => first | rfl | decide | assumption | omega)) | (with_reducible refine Ev.ifn ?cc ?_; (case cc => first | decide | assumption | omega)) | simp only [bne_self_eq_false, some_bind])
    · rw [if_neg hd]
      simp only [some_bind]
      exact Ev.ifp (by omega) (Ev.now _)
  · simp (disch := omega) only [szFloor_f w h l _ hl (show (0 : Int) ≤ 1048576 by omega) (by omega), ↓if_pos, ↓if_neg, if_pos, if_neg, decide_eq_true_eq, ↓reduceIte, ↓wrap_sc, wrap_id, some_bind, Int.toNat_natCast, rd_nat', getD_zero', Bool.not_true, Bool.not_false, Bool.false_eq_true, decide_true, decide_false]
    exact Ev.now _

end Go.Proofs.Ytjeonneegmhcdaa.Pure
