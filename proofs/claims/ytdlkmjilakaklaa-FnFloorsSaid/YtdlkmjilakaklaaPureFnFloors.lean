/- Proved here: the law FnFloors, over numbers and lists: for all arguments it returns true; no condition. -/
import Derived.Test.YtdlkmjilakaklaaPFnFloorsx7
namespace Go.Proofs.Ytdlkmjilakaklaa.Pure
open Go.RowKit Go.Proofs.Ytdlkmjilakaklaa.PFnFloors Go.Proofs.YtdlkmjilakaklaaW.PrintWords Go.Proofs.YtdlkmjilakaklaaW.PrintLast
set_option linter.unusedVariables false
set_option linter.unusedSimpArgs false

/-! #### base -/
/-! Words of this session: rounds, whole numbers in their bounds, reading by index. -/
theorem Ev.unroll {α : Type} {g : Nat → Option α} {r : α} (h : Ev (fun k => g (k + 1)) r) : Ev g r := Ev.step (fun _ => rfl) h
theorem Ev.const {α : Type} {x : Option α} {r : α} (h : x = some r) : Ev (fun _ => x) r := ⟨0, fun _ _ => h⟩
theorem Ev.fin {α : Type} {r s : α} (h : r = s) : Ev (fun _ => some r) s := by rw [h]; exact Ev.now _
theorem wrap_id {x : Int} (h0 : -9223372036854775808 ≤ x) (h1 : x ≤ 9223372036854775807) : wrap64 x = x := by unfold wrap64; omega
/-- The bound of all lengths here. -/
abbrev BIG : Nat := 4611686018427387904
theorem wrap_succ {i n : Nat} (h : i < n) (hn : n ≤ BIG) : wrap64 ((i : Int) + 1) = ((i + 1 : Nat) : Int) := by unfold wrap64; unfold BIG at hn; omega
theorem wrap_pred {i n : Nat} (h : i < n) (h0 : 0 < i) (hn : n ≤ BIG) : wrap64 ((i : Int) - 1) = ((i - 1 : Nat) : Int) := by unfold wrap64; unfold BIG at hn; omega
theorem rd_nat {xs : List Int} {i : Nat} (h : i < xs.length) : rd xs (i : Int) = xs[i] := by unfold rd; simp [List.getD, h]
theorem getD_nat {α : Type} {xs : List α} {d : α} {i : Nat} (h : i < xs.length) : xs.getD (i : Int).toNat d = xs[i] := by simp [List.getD, h]
theorem getD_zero {α : Type} {xs : List α} {d : α} (h : 0 < xs.length) : xs.getD (0 : Int).toNat d = xs[0] := by simp [List.getD, h]
theorem drop_cons {α : Type} {xs : List α} {i : Nat} (h : i < xs.length) : xs.drop i = xs[i] :: xs.drop (i + 1) := List.drop_eq_getElem_cons h
theorem drop_end {α : Type} {xs : List α} {i : Nat} (h : xs.length ≤ i) : xs.drop i = [] := List.drop_of_length_le h
/-- A list filled from the front, by index. -/
theorem fill_step {α : Type} (ys zs : List α) (x : α) {i : Nat} (hi : i = ys.length) (hz : 0 < zs.length) : (ys ++ zs).set i x = (ys ++ [x]) ++ zs.drop 1 := by
  subst hi
  match zs, hz with
  | z :: zs, _ => simp
theorem set_id {α : Type} (xs : List α) (i : Nat) (h : i < xs.length) : xs.set i xs[i] = xs := by
  apply List.ext_getElem
  · simp
  · intro j h1 h2
    rw [List.getElem_set]
    split
    · rename_i e; subst e; rfl
    · rfl
theorem some_bind {α β : Type} (a : α) (f : α → Option β) : (some a).bind f = f a := rfl
theorem getD_at {α : Type} {xs : List α} {d : α} {i : Nat} (h : i < xs.length) : xs.getD i d = xs[i] := by simp [List.getD, h]
/-- All places from i on, below n. -/
def allFrom (n i : Nat) (p : Nat → Bool) : Bool := (List.range' i (n - i)).all p
theorem allFrom_end {n i : Nat} {p : Nat → Bool} (h : n ≤ i) : allFrom n i p = true := by
  unfold allFrom
  rw [show n - i = 0 by omega]; rfl
theorem allFrom_step {n i : Nat} {p : Nat → Bool} (h : i < n) : allFrom n i p = (p i && allFrom n (i + 1) p) := by
  unfold allFrom
  rw [show n - i = (n - (i + 1)) + 1 by omega, List.range'_succ, List.all_cons]
theorem allFrom_no {n i : Nat} {p : Nat → Bool} (h : i < n) (hp : p i = false) : allFrom n i p = false := by rw [allFrom_step h, hp, Bool.false_and]
theorem allFrom_yes {n i : Nat} {p : Nat → Bool} (h : i < n) (hp : p i = true) : allFrom n i p = allFrom n (i + 1) p := by rw [allFrom_step h, hp, Bool.true_and]
theorem allFrom_iff {n i : Nat} {p : Nat → Bool} : allFrom n i p = true ↔ ∀ j, i ≤ j → j < n → p j = true := by
  unfold allFrom
  rw [List.all_eq_true]
  constructor
  · intro h j h1 h2
    exact h j (by rw [List.mem_range'_1]; omega)
  · intro h j hj
    rw [List.mem_range'_1] at hj
    exact h j hj.1 (by omega)
theorem itd_pos {α : Type} {p : Prop} [Decidable p] (h : p) {a b : α} : (if decide p = true then a else b) = a := if_pos (decide_eq_true h)
theorem itd_neg {α : Type} {p : Prop} [Decidable p] (h : ¬ p) {a b : α} : (if decide p = true then a else b) = b := if_neg (by rw [decide_eq_false h]; decide)
/-- The places from i on, below n, that p holds of. -/
def filtFrom (n i : Nat) (p : Nat → Bool) : List Int := ((List.range' i (n - i)).filter p).map (fun j : Nat => (j : Int))
theorem filtFrom_end {n i : Nat} {p : Nat → Bool} (h : n ≤ i) : filtFrom n i p = [] := by
  unfold filtFrom
  rw [show n - i = 0 by omega]; rfl
theorem filtFrom_yes {n i : Nat} {p : Nat → Bool} (h : i < n) (hp : p i = true) : filtFrom n i p = (i : Int) :: filtFrom n (i + 1) p := by
  unfold filtFrom
  rw [show n - i = (n - (i + 1)) + 1 by omega, List.range'_succ, List.filter_cons, if_pos hp, List.map_cons]
theorem filtFrom_no {n i : Nat} {p : Nat → Bool} (h : i < n) (hp : p i = false) : filtFrom n i p = filtFrom n (i + 1) p := by
  unfold filtFrom
  rw [show n - i = (n - (i + 1)) + 1 by omega, List.range'_succ, List.filter_cons, if_neg (by rw [hp]; decide)]
theorem filtFrom_le {n i : Nat} {p : Nat → Bool} : (filtFrom n i p).length ≤ n - i := by
  unfold filtFrom
  rw [List.length_map]
  exact Nat.le_trans (List.length_filter_le _ _) (by simp)
theorem mem_filtFrom {n i : Nat} {p : Nat → Bool} {x : Int} : x ∈ filtFrom n i p ↔ ∃ j : Nat, i ≤ j ∧ j < n ∧ p j = true ∧ x = (j : Int) := by
  unfold filtFrom
  simp only [List.mem_map, List.mem_filter, List.mem_range'_1]
  constructor
  · rintro ⟨j, ⟨⟨h1, h2⟩, h3⟩, rfl⟩; exact ⟨j, h1, by omega, h3, rfl⟩
  · rintro ⟨j, h1, h2, h3, rfl⟩; exact ⟨j, ⟨⟨h1, by omega⟩, h3⟩, rfl⟩
theorem wrap_sc {i : Nat} (h : i < 9223372036854775807) : wrap64 ((i : Int) + 1) = ((i + 1 : Nat) : Int) := by unfold wrap64; omega
theorem rd_nat' {xs : List Int} {i : Nat} : rd xs (i : Int) = xs.getD i 0 := by unfold rd; rw [Int.toNat_natCast]
theorem getD_zero' {α : Type} {xs : List α} {d : α} : xs.getD (0 : Int).toNat d = xs.getD 0 d := rfl
theorem Bool.ite_tf (b : Bool) : (if b = true then true else false) = b := by cases b <;> rfl
theorem ev_ite {α : Type} {c : Prop} [Decidable c] {g h : Nat → Option α} {r s : α} (h1 : c → Ev g r) (h2 : ¬ c → Ev h s) : Ev (fun k => if c then g k else h k) (if c then r else s) := by
  by_cases hc : c
  · simp only [if_pos hc]; exact h1 hc
  · simp only [if_neg hc]; exact h2 hc
theorem Ev.ifp {α : Type} {c : Prop} [Decidable c] {g h : Nat → Option α} {r : α} (hc : c) (e : Ev g r) : Ev (fun k => if c then g k else h k) r := by simp only [if_pos hc]; exact e
theorem Ev.ifn {α : Type} {c : Prop} [Decidable c] {g h : Nat → Option α} {r : α} (hc : ¬ c) (e : Ev h r) : Ev (fun k => if c then g k else h k) r := by simp only [if_neg hc]; exact e
theorem ev_ite' {α : Type} {c : Prop} [Decidable c] {g h : Nat → Option α} {r : α} (h1 : c → Ev g r) (h2 : ¬ c → Ev h r) : Ev (fun k => if c then g k else h k) r := by
  by_cases hc : c
  · simp only [if_pos hc]; exact h1 hc
  · simp only [if_neg hc]; exact h2 hc

/-! #### Draw -/
/-! Draws: a byte is one, a number below n is one. -/
theorem bits_and_small (x : Int) {m : Nat} (hm : m < 256) : 0 ≤ Go.bits .and .i64 x (m : Int) ∧ Go.bits .and .i64 x (m : Int) ≤ (m : Int) := by
  unfold Go.bits
  show 0 ≤ IntKind.i64.wrap ((BitVec.ofInt 64 x &&& BitVec.ofInt 64 (m : Int)).toNat : Int) ∧ IntKind.i64.wrap ((BitVec.ofInt 64 x &&& BitVec.ofInt 64 (m : Int)).toNat : Int) ≤ (m : Int)
  rw [BitVec.toNat_and, BitVec.ofInt_natCast, BitVec.toNat_ofNat, Nat.mod_eq_of_lt (show m < 2 ^ 64 by omega)]
  have h : (BitVec.ofInt 64 x).toNat &&& m ≤ m := Nat.and_le_right
  rw [i64_w, wrap_id (by omega) (by omega)]
  omega
/-- The state of a draw: a place that is none below 0. -/
theorem l1Byte_ok (b : List Int) (i h : Int) (hi : 0 ≤ i) (hb : b.length ≤ 1048576) : ∃ x i' h' : Int, spec_l1Byte.f b i h = some (x, i', h') ∧ 0 ≤ x ∧ x ≤ 255 ∧ 0 ≤ i' := by
  unfold spec_l1Byte.f
  by_cases h1 : i < (b.length : Int)
  · rw [if_pos h1, if_pos hi, wrap_id (x := i + 1) (by omega) (by omega)]
    have := bits_and_small (m := 255) (wrap64 (Go.bits .and .i64 (Go.bits .xor .i64 (wrap64 (wrap64 (h * 6364136223846793005) + 1442695040888963407) / 8589934592) (wrap64 (wrap64 (h * 6364136223846793005) + 1442695040888963407) / 140737488355328)) 255 + wrap64 (rd b i))) (by omega)
    exact ⟨_, _, _, rfl, this.1, this.2, by omega⟩
  · rw [if_neg h1]
    have := bits_and_small (m := 255) (Go.bits .xor .i64 (wrap64 (wrap64 (h * 6364136223846793005) + 1442695040888963407) / 8589934592) (wrap64 (wrap64 (h * 6364136223846793005) + 1442695040888963407) / 140737488355328)) (by omega)
    exact ⟨_, _, _, rfl, this.1, this.2, by omega⟩
theorem l1Below_ok (b : List Int) (i h n : Int) (hi : 0 ≤ i) (hb : b.length ≤ 1048576) : ∃ x i' h' : Int, spec_l1Below.f b i h n = some (x, i', h') ∧ 0 ≤ i' ∧ 0 ≤ x ∧ (0 < n → x < n) ∧ (n ≤ 0 → x = 0) := by
  unfold spec_l1Below.f
  by_cases h1 : n ≤ 0
  · rw [if_pos h1]
    exact ⟨_, _, _, rfl, hi, by omega, by omega, fun _ => rfl⟩
  · rw [if_neg h1]
    obtain ⟨x, i1, s1, e1, x0, x1, hi1⟩ := l1Byte_ok b i h hi hb
    rw [e1]
    simp only [some_bind]
    by_cases h2 : n ≤ 256
    · rw [if_pos h2, if_neg (by omega)]
      refine ⟨_, _, _, rfl, hi1, ?_, fun _ => ?_, fun h => by omega⟩
      · rw [Int.tmod_eq_emod_of_nonneg x0]; exact Int.emod_nonneg _ (by omega)
      · rw [Int.tmod_eq_emod_of_nonneg x0]; exact Int.emod_lt_of_pos _ (by omega)
    · rw [if_neg h2]
      obtain ⟨y, i2, s2, e2, y0, y1, hi2⟩ := l1Byte_ok b i1 s1 hi1 hb
      rw [e2]
      simp only [some_bind]
      obtain ⟨z, i3, s3, e3, z0, z1, hi3⟩ := l1Byte_ok b i2 s2 hi2 hb
      rw [e3]
      simp only [some_bind]
      rw [if_neg (by omega), wrap_id (x := x * 65536) (by omega) (by omega), wrap_id (x := y * 256) (by omega) (by omega), wrap_id (x := x * 65536 + y * 256) (by omega) (by omega), wrap_id (x := x * 65536 + y * 256 + z) (by omega) (by omega)]
      refine ⟨_, _, _, rfl, hi3, ?_, fun _ => ?_, fun h => by omega⟩
      · rw [Int.tmod_eq_emod_of_nonneg (by omega)]; exact Int.emod_nonneg _ (by omega)
      · rw [Int.tmod_eq_emod_of_nonneg (by omega)]; exact Int.emod_lt_of_pos _ (by omega)
theorem l1Once_ok (b : List Int) (i h n : Int) (hi : 0 ≤ i) (hb : b.length ≤ 1048576) : ∃ (x : Bool) (i' h' : Int), spec_l1Once.f b i h n = some (x, i', h') ∧ 0 ≤ i' := by
  obtain ⟨x, i1, s1, e1, hi1, _⟩ := l1Below_ok b i h n hi hb
  unfold spec_l1Once.f
  rw [e1]
  exact ⟨_, _, _, rfl, hi1⟩
theorem l1Int_ok (b : List Int) (i h : Int) (l : List Int) (hi : 0 ≤ i) (hb : b.length ≤ 1048576) (hl : 0 < l.length) (hl2 : l.length ≤ 1048576) : ∃ x i' h' : Int, spec_l1Int.f b i h l = some (x, i', h') ∧ 0 ≤ i' ∧ x ∈ l := by
  obtain ⟨x, i1, s1, e1, hi1, x0, x1, _⟩ := l1Below_ok b i h l.length hi hb
  have x2 := x1 (by omega)
  unfold spec_l1Int.f
  rw [e1]
  simp only [some_bind]
  rw [if_pos x0, if_pos x2]
  refine ⟨_, _, _, rfl, hi1, ?_⟩
  unfold rd
  rw [getD_at (by omega)]
  exact List.getElem_mem _
theorem l1Str_ok (b : List Int) (i h : Int) (l : List ByteArray) (hi : 0 ≤ i) (hb : b.length ≤ 1048576) (hl : 0 < l.length) (hl2 : l.length ≤ 1048576) : ∃ (x : ByteArray) (i' h' : Int), spec_l1Str.f b i h l = some (x, i', h') ∧ 0 ≤ i' ∧ x ∈ l := by
  obtain ⟨x, i1, s1, e1, hi1, x0, x1, _⟩ := l1Below_ok b i h l.length hi hb
  have x2 := x1 (by omega)
  unfold spec_l1Str.f
  rw [e1]
  simp only [some_bind]
  rw [if_pos x0, if_pos x2]
  refine ⟨_, _, _, rfl, hi1, ?_⟩
  unfold rdOf
  rw [getD_at (by omega)]
  exact List.getElem_mem _
theorem l1New_ok (b : List Int) (hb : b.length ≤ 1048576) : ∃ h : Int, Ev (fun k => spec_l1New.f k b) (b, 0, h) := by
  have key : ∀ (d i : Nat) (h : Int), i + d = b.length → ∃ h' : Int, Ev (fun k => spec_l1New.l0 k b h i) (b, 0, h') := by
    intro d
    induction d with
    | zero =>
      intro i h e
      exact ⟨h, Ev.unroll (by simp only [spec_l1New.l0]; exact Ev.ifn (by omega) (Ev.now _))⟩
    | succ d ih =>
      intro i h e
      by_cases h4 : (i : Int) < 4000
      · obtain ⟨h', hh⟩ := ih (i + 1) (Go.bits .and .i64 (wrap64 (wrap64 (wrap64 (h * 137) + wrap64 (rd b i)) + 11)) 1073741823) (by omega)
        refine ⟨h', Ev.unroll ?_⟩
        simp only [spec_l1New.l0]
        refine Ev.ifp (by omega) (Ev.ifp h4 (Ev.ifp (by omega) ?_))
        rw [wrap_sc (by omega)]
        exact hh
      · exact ⟨h, Ev.unroll (by simp only [spec_l1New.l0]; exact Ev.ifp (by omega) (Ev.ifn h4 (Ev.now _)))⟩
  exact key b.length 0 _ (by omega)

/-! #### In -/
/-- Between two bounds. -/
def inB (a b c : Int) : Bool := decide (b ≤ a ∧ a ≤ c)
theorem inB_iff {a b c : Int} : inB a b c = true ↔ b ≤ a ∧ a ≤ c := by unfold inB; exact decide_eq_true_iff
theorem inB_no {a b c : Int} : inB a b c = false ↔ ¬ (b ≤ a ∧ a ≤ c) := by rw [← inB_iff]; simp
theorem impl_in_f (a b c : Int) : impl_in.f a b c = some (inB a b c) := by
  unfold impl_in.f inB
  by_cases h : b ≤ a <;> by_cases h2 : a ≤ c <;> simp [h, h2]
theorem spec_l1In_f (a b c : Int) : spec_l1In.f a b c = some (inB a b c) := by
  unfold spec_l1In.f inB
  by_cases h : b ≤ a <;> by_cases h2 : a ≤ c <;> simp [h, h2]

/-! #### Near -/
/-- The cells beside one: above, left, right, below. -/
def besideL (w h c : Int) : List Int :=
  (if c / w > 0 then [c - w] else []) ++ ((if c % w > 0 then [c - 1] else []) ++ ((if c % w < w - 1 then [c + 1] else []) ++ (if c / w < h - 1 then [c + w] else [])))
theorem besideL_le (w h c : Int) : (besideL w h c).length ≤ 4 := by
  unfold besideL
  split <;> split <;> split <;> split <;> simp
/-- A floor's bounds. -/
structure Fits (w h c : Int) : Prop where
  w1 : 1 ≤ w
  w2 : w ≤ 10
  h1 : 1 ≤ h
  h2 : h ≤ 10
  c1 : 0 ≤ c
  c2 : c < w * h
theorem Fits.area {w h c : Int} (f : Fits w h c) : w * h ≤ 100 := by
  have e2 : w * h ≤ 10 * 10 := Int.mul_le_mul f.w2 f.h2 (by have := f.h1; omega) (by omega)
  omega
theorem Fits.quot {w h c : Int} (f : Fits w h c) : 0 ≤ c / w ∧ c / w < h ∧ c = w * (c / w) + c % w ∧ 0 ≤ c % w ∧ c % w < w := by
  refine ⟨Int.ediv_nonneg f.c1 (by have := f.w1; omega), ?_, (Int.mul_ediv_add_emod c w).symm, Int.emod_nonneg _ (by have := f.w1; omega), Int.emod_lt_of_pos _ (by have := f.w1; omega)⟩
  apply Int.ediv_lt_of_lt_mul (by have := f.w1; omega)
  have := f.c2
  rw [Int.mul_comm]; exact this
theorem Fits.tdiv {w h c : Int} (f : Fits w h c) : wrap64 (Int.tdiv c w) = c / w := by
  have q := f.quot; have a := f.h2
  rw [Int.tdiv_eq_ediv_of_nonneg f.c1, wrap_id (by omega) (by omega)]
theorem Fits.tmod {w h c : Int} (f : Fits w h c) : Int.tmod c w = c % w := Int.tmod_eq_emod_of_nonneg f.c1
theorem mem_besideL {w h c x : Int} (f : Fits w h c) (hx : x ∈ besideL w h c) : 0 ≤ x ∧ x < w * h := by
  obtain ⟨q1, q2, q3, q4, q5⟩ := f.quot
  have hc := f.c2; have hw := f.w1
  unfold besideL at hx
  simp only [List.mem_append] at hx
  have up : c / w > 0 → w ≤ w * (c / w) := fun h => by have := Int.mul_le_mul_of_nonneg_left (show (1 : Int) ≤ c / w by omega) (show 0 ≤ w by omega); rw [Int.mul_one] at this; exact this
  have down : c / w < h - 1 → w * (c / w) + w * 2 ≤ w * h := fun hh => by
    have := Int.mul_le_mul_of_nonneg_left (show c / w + 2 ≤ h by omega) (show 0 ≤ w by omega)
    rw [Int.mul_add] at this; exact this
  have right : w * (c / w) + w ≤ w * h := by
    have := Int.mul_le_mul_of_nonneg_left (show c / w + 1 ≤ h by omega) (show 0 ≤ w by omega)
    rw [Int.mul_add, Int.mul_one] at this; exact this
  have hm0 : 0 ≤ w * (c / w) := Int.mul_nonneg (by omega) q1
  generalize w * (c / w) = m at *
  generalize w * h = n at *
  generalize c % w = r at *
  generalize c / w = q at *
  rcases hx with hx | hx | hx | hx <;> split at hx <;> simp only [List.mem_singleton, List.not_mem_nil] at hx
  · rename_i g; have := up g; omega
  · omega
  · omega
  · rename_i g; have := down g; omega
/-- The cells beside one where one may go. -/
def nearL (w h : Int) (cs : List Int) (c : Int) (loaded : Bool) : List Int := (besideL w h c).filter (fun x => !(rd cs x == 0) && !(loaded && rd cs x == 2))
theorem nearL_le (w h : Int) (cs : List Int) (c : Int) (loaded : Bool) : (nearL w h cs c loaded).length ≤ 4 := Nat.le_trans (List.length_filter_le _ _) (besideL_le w h c)
theorem mem_nearL {w h : Int} {cs : List Int} {c x : Int} {loaded : Bool} : x ∈ nearL w h cs c loaded ↔ x ∈ besideL w h c ∧ rd cs x ≠ 0 ∧ (loaded = true → rd cs x ≠ 2) := by
  unfold nearL
  rw [List.mem_filter]
  cases loaded <;> simp

/-! #### FloorOk -/
def kindsOk (cs : List Int) (i : Nat) : Bool := allFrom cs.length i (fun j => inB (cs.getD j 0) 0 4)
def floorOk (w h : Int) (cs : List Int) : Bool := inB w 1 10 && inB h 1 10 && decide ((cs.length : Int) = w * h) && kindsOk cs 0
theorem impl_FloorOk_l0 (cs : List Int) (hn : cs.length ≤ BIG) : ∀ (d i : Nat), i + d = cs.length → Ev (fun k => impl_FloorOk.l0 k cs cs.length i) (kindsOk cs i)
  | 0, i, e => Ev.unroll (by
      simp only [impl_FloorOk.l0]
      simp only [if_neg (show ¬ (i : Int) < cs.length by omega)]
      exact Ev.fin (allFrom_end (by omega)).symm)
  | d + 1, i, e => Ev.unroll (by
      have hi : i < cs.length := by omega
      simp only [impl_FloorOk.l0, impl_in_f, some_bind]
      simp only [if_pos (show (i : Int) < cs.length by omega), if_pos (show (0 : Int) ≤ i by omega), wrap_succ hi hn, rd, Int.toNat_natCast]
      by_cases h1 : inB (cs.getD i 0) 0 4 = true
      · simp only [if_pos h1]
        rw [show kindsOk cs i = kindsOk cs (i + 1) from allFrom_yes hi h1]
        exact impl_FloorOk_l0 cs hn d (i + 1) (by omega)
      · simp only [if_neg h1]
        exact Ev.fin (allFrom_no hi (by simpa using h1)).symm)
theorem inB_mul {w h : Int} (h1 : inB w 1 10 = true) (h2 : inB h 1 10 = true) : wrap64 (w * h) = w * h ∧ 1 ≤ w * h ∧ w * h ≤ 100 := by
  obtain ⟨a, b⟩ := inB_iff.1 h1
  obtain ⟨c, d⟩ := inB_iff.1 h2
  have e1 : 1 * 1 ≤ w * h := Int.mul_le_mul a c (by omega) (by omega)
  have e2 : w * h ≤ 10 * 10 := Int.mul_le_mul b d (by omega) (by omega)
  exact ⟨wrap_id (by omega) (by omega), by omega, by omega⟩
theorem impl_FloorOk_f (w h : Int) (cs : List Int) (hn : cs.length ≤ BIG) : Ev (fun k => impl_FloorOk.f k w h cs) (floorOk w h cs) := by
  unfold impl_FloorOk.f floorOk
  simp only [impl_in_f, some_bind]
  by_cases h1 : inB w 1 10 = true
  · simp only [if_pos h1]
    by_cases h2 : inB h 1 10 = true
    · simp only [if_pos h2, (inB_mul h1 h2).1]
      refine Ev.unroll ?_
      simp only [impl_FloorOk.j0]
      by_cases h3 : (cs.length : Int) = w * h
      · simp only [h3, bne_self_eq_false, Bool.false_eq_true, if_false, h1, h2, Bool.true_and, decide_true]
        rw [← h3]
        exact impl_FloorOk_l0 cs hn cs.length 0 (by omega)
      · simp only [if_pos (show ((cs.length : Int) != w * h) = true by simpa using h3)]
        exact Ev.fin (by simp [h3])
    · simp only [if_neg h2]
      refine Ev.unroll ?_
      simp only [impl_FloorOk.j0, if_true]
      exact Ev.fin (by rw [Bool.not_eq_true] at h2; rw [h2]; simp)
  · simp only [if_neg h1]
    refine Ev.unroll ?_
    simp only [impl_FloorOk.j0, if_true]
    exact Ev.fin (by rw [Bool.not_eq_true] at h1; rw [h1]; simp)

/-! #### Turned0 -/
theorem floorOk_size {w h : Int} {cs : List Int} (h1 : floorOk w h cs = true) : 1 ≤ w ∧ w ≤ 10 ∧ 1 ≤ h ∧ h ≤ 10 ∧ (cs.length : Int) = w * h := by
  unfold floorOk at h1
  simp only [Bool.and_eq_true, inB_iff, decide_eq_true_eq] at h1
  exact ⟨h1.1.1.1.1, h1.1.1.1.2, h1.1.1.2.1, h1.1.1.2.2, h1.1.2⟩
theorem floorOk_area {w h : Int} {cs : List Int} (h1 : floorOk w h cs = true) : cs.length ≤ 100 := by
  obtain ⟨a1, a2, a3, a4, a5⟩ := floorOk_size h1
  have e2 : w * h ≤ 10 * 10 := Int.mul_le_mul a2 a4 (by omega) (by omega)
  omega

/-! #### DrawFloor -/
/-- A drawn floor: it is right, and not too large. -/
structure Drawn (w h : Int) (cs : List Int) : Prop where
  ok : floorOk w h cs = true
  len : 1 ≤ cs.length ∧ cs.length ≤ 42
def drawnTexts : List ByteArray := [(⟨#[99, 46, 46, 46, 46, 46, 10, 46, 112, 112, 46, 112, 46, 10, 46, 112, 112, 46, 112, 46, 10, 46, 46, 46, 46, 46, 115, 10]⟩ : ByteArray), (⟨#[99, 46, 46, 10, 46, 46, 46, 10, 46, 46, 115, 10]⟩ : ByteArray), (⟨#[46, 46, 46, 46, 46, 10, 46, 112, 35, 112, 46, 10, 46, 46, 115, 46, 46, 10, 46, 112, 35, 112, 46, 10, 99, 46, 46, 46, 99, 10]⟩ : ByteArray), (⟨#[46, 46, 46, 35, 46, 46, 46, 10, 46, 46, 46, 46, 46, 46, 46, 10, 46, 46, 46, 35, 46, 46, 46, 10]⟩ : ByteArray), (⟨#[99, 46, 46, 46, 46, 46, 46, 46, 10, 46, 112, 46, 112, 46, 112, 46, 46, 10, 46, 46, 46, 46, 46, 46, 46, 115, 10, 46, 112, 46, 112, 46, 112, 46, 46, 10, 99, 46, 46, 46, 46, 46, 46, 115, 10]⟩ : ByteArray), (⟨#[46, 46, 10, 46, 46, 10]⟩ : ByteArray), (⟨#[99, 46, 35, 46, 115, 10, 46, 46, 35, 46, 46, 10]⟩ : ByteArray)]
theorem drawn_pars (s : ByteArray) (hs : s ∈ drawnTexts) :
    ∃ (w h : Int) (cs : List Int), Ev (fun k => spec_ParseFloor.f k s) (w, h, cs, -1) ∧ Drawn w h cs := by
  unfold drawnTexts at hs
  simp only [List.mem_cons, List.not_mem_nil, or_false] at hs
  rcases hs with rfl | rfl | rfl | rfl | rfl | rfl | rfl
  · exact ⟨6, 4, [4, 1, 1, 1, 1, 1, 1, 2, 2, 1, 2, 1, 1, 2, 2, 1, 2, 1, 1, 1, 1, 1, 1, 3], Ev.of (spec_ParseFloor.mono _) (k := 200) (by decide +kernel), by decide +kernel, by decide⟩
  · exact ⟨3, 3, [4, 1, 1, 1, 1, 1, 1, 1, 3], Ev.of (spec_ParseFloor.mono _) (k := 200) (by decide +kernel), by decide +kernel, by decide⟩
  · exact ⟨5, 5, [1, 1, 1, 1, 1, 1, 2, 0, 2, 1, 1, 1, 3, 1, 1, 1, 2, 0, 2, 1, 4, 1, 1, 1, 4], Ev.of (spec_ParseFloor.mono _) (k := 200) (by decide +kernel), by decide +kernel, by decide⟩
  · exact ⟨7, 3, [1, 1, 1, 0, 1, 1, 1, 1, 1, 1, 1, 1, 1, 1, 1, 1, 1, 0, 1, 1, 1], Ev.of (spec_ParseFloor.mono _) (k := 200) (by decide +kernel), by decide +kernel, by decide⟩
  · exact ⟨8, 5, [4, 1, 1, 1, 1, 1, 1, 1, 1, 2, 1, 2, 1, 2, 1, 1, 1, 1, 1, 1, 1, 1, 1, 3, 1, 2, 1, 2, 1, 2, 1, 1, 4, 1, 1, 1, 1, 1, 1, 3], Ev.of (spec_ParseFloor.mono _) (k := 200) (by decide +kernel), by decide +kernel, by decide⟩
  · exact ⟨2, 2, [1, 1, 1, 1], Ev.of (spec_ParseFloor.mono _) (k := 200) (by decide +kernel), by decide +kernel, by decide⟩
  · exact ⟨5, 2, [4, 1, 0, 1, 3, 1, 1, 0, 1, 1], Ev.of (spec_ParseFloor.mono _) (k := 200) (by decide +kernel), by decide +kernel, by decide⟩
theorem l1Floor_l0_ok (b : List Int) (hb : b.length ≤ 1048576) (w h : Int) (hw : 1 ≤ w ∧ w ≤ 7) (hh : 1 ≤ h ∧ h ≤ 6) (n : Nat) (hn : (n : Int) = w * h) : ∀ (d j : Nat) (i s : Int) (cs : List Int), j + d = n → 0 ≤ i → cs.length = j → (∀ x ∈ cs, 0 ≤ x ∧ x ≤ 4) →
    ∃ (cs' : List Int) (i' s' : Int), Ev (fun k => spec_l1Floor.l0 k j b i s w h cs) (w, h, cs', i', s') ∧ cs'.length = n ∧ (∀ x ∈ cs', 0 ≤ x ∧ x ≤ 4) ∧ 0 ≤ i' := by
  have area : w * h ≤ 7 * 6 := Int.mul_le_mul hw.2 hh.2 (by omega) (by omega)
  have e0 : wrap64 (w * h) = n := by rw [wrap_id (by omega) (by omega)]; omega
  intro d
  induction d with
  | zero =>
    intro j i s cs e hi hl hc
    refine ⟨cs, i, s, Ev.unroll ?_, by omega, hc, hi⟩
    simp only [spec_l1Floor.l0, e0]
    exact Ev.ifn (by omega) (Ev.now _)
  | succ d ih =>
    intro j i s cs e hi hl hc
    obtain ⟨x, i1, s1, e1, hi1, hx⟩ := l1Int_ok b i s [1, 1, 1, 1, 1, 1, 0, 2, 3, 4] hi hb (by decide) (by decide)
    have hx2 : 0 ≤ x ∧ x ≤ 4 := by
      simp only [List.mem_cons, List.not_mem_nil, or_false] at hx
      omega
    obtain ⟨cs', i', s', h1, h2, h3, h4⟩ := ih (j + 1) i1 s1 (cs ++ [x]) (by omega) hi1 (by simp; omega) (fun y hy => by
      rw [List.mem_append, List.mem_singleton] at hy
      rcases hy with hy | hy
      · exact hc y hy
      · rw [hy]; exact hx2)
    refine ⟨cs', i', s', Ev.unroll ?_, h2, h3, h4⟩
    simp only [spec_l1Floor.l0, e0, e1, some_bind]
    refine Ev.ifp (by omega) (Ev.ifp (by omega) ?_)
    rw [wrap_sc (by omega)]
    exact h1
theorem drawn_of {w h : Int} {cs : List Int} (hw : 1 ≤ w ∧ w ≤ 7) (hh : 1 ≤ h ∧ h ≤ 6) (hl : (cs.length : Int) = w * h) (hc : ∀ x ∈ cs, 0 ≤ x ∧ x ≤ 4) : Drawn w h cs := by
  have area : w * h ≤ 7 * 6 := Int.mul_le_mul hw.2 hh.2 (by omega) (by omega)
  have area1 : 1 * 1 ≤ w * h := Int.mul_le_mul hw.1 hh.1 (by omega) (by omega)
  refine ⟨?_, by omega, by omega⟩
  unfold floorOk kindsOk
  simp only [Bool.and_eq_true, inB_iff, decide_eq_true_eq, allFrom_iff]
  exact ⟨⟨⟨⟨hw.1, by omega⟩, hh.1, by omega⟩, hl⟩, fun j _ hj => by rw [getD_at hj]; exact hc _ (List.getElem_mem hj)⟩
theorem l1Floor_ok (b : List Int) (i s : Int) (hi : 0 ≤ i) (hb : b.length ≤ 1048576) : ∃ (w h : Int) (cs : List Int) (i' s' : Int), Ev (fun k => spec_l1Floor.f k b i s) (w, h, cs, i', s') ∧ Drawn w h cs ∧ 0 ≤ i' := by
  unfold spec_l1Floor.f
  obtain ⟨x, i1, s1, e1, hi1⟩ := l1Once_ok b i s 3 hi hb
  rw [e1]
  simp only [some_bind]
  cases x with
  | true =>
    obtain ⟨t, i2, s2, e2, hi2, ht⟩ := l1Str_ok b i1 s1 drawnTexts hi1 hb (by decide) (by decide)
    obtain ⟨w, h, cs, hp, hd⟩ := drawn_pars t ht
    refine ⟨w, h, cs, i2, s2, ?_, hd, hi2⟩
    unfold drawnTexts at e2
    rw [e2]
    simp only [if_true, some_bind]
    exact Ev.bind hp (Ev.now _)
  | false =>
    obtain ⟨x, i2, s2, e2, hi2, x0, x1, _⟩ := l1Below_ok b i1 s1 7 hi1 hb
    obtain ⟨y, i3, s3, e3, hi3, y0, y1, _⟩ := l1Below_ok b i2 s2 6 hi2 hb
    have x1 := x1 (by omega)
    have y1 := y1 (by omega)
    have area0 : 0 ≤ (1 + x) * (1 + y) := Int.mul_nonneg (by omega) (by omega)
    obtain ⟨cs, i4, s4, h1, h2, h3, h4⟩ := l1Floor_l0_ok b hb (1 + x) (1 + y) (by omega) (by omega) ((1 + x) * (1 + y)).toNat (by omega) ((1 + x) * (1 + y)).toNat 0 i3 s3 [] (by omega) hi3 rfl (by simp)
    refine ⟨1 + x, 1 + y, cs, i4, s4, ?_, drawn_of (by omega) (by omega) (by omega) h3, h4⟩
    rw [e2]
    simp only [Bool.false_eq_true, if_false, some_bind]
    rw [e3]
    simp only [some_bind]
    rw [wrap_id (x := 1 + x) (by omega) (by omega), wrap_id (x := 1 + y) (by omega) (by omega)]
    exact h1
theorem DrawFloor_ok (b : List Int) (hb : b.length ≤ 1048576) : ∃ (w h : Int) (cs : List Int) (p q : Int), Ev (fun k => spec_DrawFloor.f k b) (w, h, cs, p, q) ∧ Drawn w h cs ∧ 0 ≤ p ∧ p < (cs.length : Int) ∧ 0 ≤ q ∧ q < (cs.length : Int) := by
  unfold spec_DrawFloor.f
  obtain ⟨s, e0⟩ := l1New_ok b hb
  obtain ⟨w, h, cs, i1, s1, e1, hd, hi1⟩ := l1Floor_ok b 0 s (by omega) hb
  obtain ⟨p, i2, s2, e2, hi2, p0, p1, _⟩ := l1Below_ok b i1 s1 cs.length hi1 hb
  obtain ⟨q, i3, s3, e3, hi3, q0, q1, _⟩ := l1Below_ok b i2 s2 cs.length hi2 hb
  have := hd.len
  refine ⟨w, h, cs, p, q, ?_, hd, p0, p1 (by omega), q0, q1 (by omega)⟩
  refine Ev.bind e0 (Ev.bind e1 ?_)
  simp only [e2, some_bind, e3]
  exact Ev.now _

/-! #### Bfs -/
/-! Breadth first: from a cell outward. -/
def relax (v : Int) : List Int → List Int → List Int → List Int × List Int
  | out, todo, [] => (out, todo)
  | out, todo, c :: l => if rd out c < 0 then relax v (out.set c.toNat v) (todo ++ [c]) l else relax v out todo l
def negs (out : List Int) : Nat := out.countP (fun x => decide (x < 0))
theorem rd_set {xs : List Int} {c : Int} {v : Int} (h0 : 0 ≤ c) (h1 : c < (xs.length : Int)) {i : Int} (hi : 0 ≤ i) : rd (xs.set c.toNat v) i = if i = c then v else rd xs i := by
  unfold rd
  by_cases e : i = c
  · subst e
    rw [if_pos rfl, getD_at (by rw [List.length_set]; omega), List.getElem_set_self]
  · rw [if_neg e, List.getD_eq_getElem?_getD, List.getD_eq_getElem?_getD, List.getElem?_set_ne (by omega)]
theorem negs_set {xs : List Int} {c : Int} {v : Int} (h1 : c.toNat < xs.length) (hn : rd xs c < 0) (hv : 0 ≤ v) : negs (xs.set c.toNat v) + 1 = negs xs := by
  unfold negs
  rw [List.countP_set h1]
  have e : xs[c.toNat] < 0 := by unfold rd at hn; rwa [getD_at h1] at hn
  have hp : 0 < xs.countP (fun x => decide (x < 0)) := List.countP_pos_iff.2 ⟨xs[c.toNat], List.getElem_mem h1, by simpa using e⟩
  simp only [decide_eq_true_eq, if_pos e, if_neg (show ¬ v < 0 by omega)]
  omega
structure Relaxed (v : Int) (out todo0 l out' todo' : List Int) : Prop where
  len : out'.length = out.length
  val : ∀ c : Int, 0 ≤ c → rd out' c = if rd out c < 0 ∧ c ∈ l then v else rd out c
  todo : ∃ new, todo' = todo0 ++ new ∧ ∀ c, c ∈ new ↔ c ∈ l ∧ rd out c < 0
  size : negs out' + todo'.length = negs out + todo0.length
theorem relax_spec (v : Int) (hv : 0 ≤ v) : ∀ (l out todo : List Int), (∀ c ∈ l, 0 ≤ c ∧ c < (out.length : Int)) → Relaxed v out todo l (relax v out todo l).1 (relax v out todo l).2
  | [], out, todo, _ => ⟨rfl, fun c _ => by simp [relax], ⟨[], by simp [relax]⟩, rfl⟩
  | c :: l, out, todo, h => by
    have hc := h c (by simp)
    unfold relax
    by_cases h1 : rd out c < 0
    · rw [if_pos h1]
      have ih := relax_spec v hv l (out.set c.toNat v) (todo ++ [c]) (fun x hx => by rw [List.length_set]; exact h x (by simp [hx]))
      obtain ⟨new, e1, e2⟩ := ih.todo
      refine ⟨by rw [ih.len, List.length_set], fun x hx => ?_, ⟨c :: new, by rw [e1]; simp, fun x => ?_⟩, ?_⟩
      · rw [ih.val x hx, rd_set hc.1 hc.2 hx]
        by_cases e : x = c
        · subst e; simp [h1, show ¬ v < 0 by omega]
        · simp [e]
      · rw [List.mem_cons, e2]
        by_cases hx : x = c
        · subst hx; simp [h1]
        · by_cases hm : x ∈ l
          · have hx0 := h x (by simp [hm])
            rw [rd_set hc.1 hc.2 hx0.1, if_neg hx]; simp [hx, hm]
          · simp [hx, hm]
      · have h2 := ih.size
        have h3 := negs_set (xs := out) (c := c) (v := v) (by omega) h1 hv
        simp only [List.length_append, List.length_cons, List.length_nil] at h2
        omega
    · rw [if_neg h1]
      have ih := relax_spec v hv l out todo (fun x hx => h x (by simp [hx]))
      obtain ⟨new, e1, e2⟩ := ih.todo
      refine ⟨ih.len, fun x hx => ?_, ⟨new, e1, fun x => ?_⟩, ih.size⟩
      · rw [ih.val x hx]
        by_cases e : x = c
        · subst e; simp [h1]
        · simp [e]
      · rw [e2]
        by_cases hx : x = c
        · subst hx; simp [h1]
        · simp [hx]
def bfs (nb : Int → List Int) (go : Int → Bool) : Nat → List Int → List Int → List Int
  | 0, out, _ => out
  | _ + 1, out, [] => out
  | k + 1, out, n :: t => if go n = true then bfs nb go k (relax (rd out n + 1) out t (nb n)).1 (relax (rd out n + 1) out t (nb n)).2 else bfs nb go k out t
/-- What breadth first keeps: m is how far the head is. -/
structure BInv (nb : Int → List Int) (go : Int → Bool) (dst : Int) (n : Nat) (m : Int) (out todo : List Int) : Prop where
  len : out.length = n
  m0 : 0 ≤ m
  low : ∀ c : Int, 0 ≤ c → c < n → -1 ≤ rd out c
  zero : rd out dst = 0
  only : ∀ c : Int, 0 ≤ c → c < n → rd out c = 0 → c = dst
  mem : ∀ c ∈ todo, 0 ≤ c ∧ c < (n : Int) ∧ m ≤ rd out c
  srt : todo.Pairwise (fun a b => rd out a ≤ rd out b)
  top : ∀ c : Int, 0 ≤ c → c < n → rd out c ≤ m + 1
  done : ∀ c : Int, 0 ≤ c → c < n → 0 ≤ rd out c → c ∉ todo → rd out c ≤ m ∧ (go c = true → ∀ v ∈ nb c, 0 ≤ rd out v ∧ rd out v ≤ rd out c + 1)
  pred : ∀ v : Int, 0 ≤ v → v < n → 0 < rd out v → ∃ u : Int, 0 ≤ u ∧ u < n ∧ go u = true ∧ v ∈ nb u ∧ rd out u = rd out v - 1
/-- What breadth first tells. -/
structure Bfs (nb : Int → List Int) (go : Int → Bool) (dst : Int) (n : Nat) (out : List Int) : Prop where
  len : out.length = n
  low : ∀ c : Int, 0 ≤ c → c < n → -1 ≤ rd out c
  zero : rd out dst = 0
  only : ∀ c : Int, 0 ≤ c → c < n → rd out c = 0 → c = dst
  next : ∀ c : Int, 0 ≤ c → c < n → 0 ≤ rd out c → go c = true → ∀ v ∈ nb c, 0 ≤ rd out v ∧ rd out v ≤ rd out c + 1
  pred : ∀ v : Int, 0 ≤ v → v < n → 0 < rd out v → ∃ u : Int, 0 ≤ u ∧ u < n ∧ go u = true ∧ v ∈ nb u ∧ rd out u = rd out v - 1
theorem bfs_inv {nb : Int → List Int} {go : Int → Bool} {dst : Int} {n : Nat} (hnb : ∀ c : Int, 0 ≤ c → c < n → ∀ v ∈ nb c, 0 ≤ v ∧ v < (n : Int)) (ht : 0 ≤ dst ∧ dst < (n : Int)) :
    ∀ (k : Nat) (m : Int) (out todo : List Int), negs out + todo.length < k → BInv nb go dst n m out todo → Bfs nb go dst n (bfs nb go k out todo)
  | 0, _, _, _, h, _ => by omega
  | k + 1, m, out, [], _, i => ⟨i.len, i.low, i.zero, i.only, fun c h0 h1 h2 h3 => (i.done c h0 h1 h2 (by simp)).2 h3, i.pred⟩
  | k + 1, m, out, x :: t, h, i => by
    obtain ⟨x0, x1, xm⟩ := i.mem x (by simp)
    have hs := List.pairwise_cons.1 i.srt
    have mm : ∀ c : Int, 0 ≤ c → c < n → 0 ≤ rd out c → c ∉ x :: t → rd out c ≤ rd out x := fun c h0 h1 h2 h3 => by have := (i.done c h0 h1 h2 h3).1; omega
    have hm := i.m0
    unfold bfs
    by_cases hg : go x = true
    · rw [if_pos hg]
      have r := relax_spec (rd out x + 1) (by omega) (nb x) out t (fun c hc => by rw [i.len]; exact hnb x x0 x1 c hc)
      generalize (relax (rd out x + 1) out t (nb x)).1 = o' at r ⊢
      generalize (relax (rd out x + 1) out t (nb x)).2 = t' at r ⊢
      obtain ⟨new, e1, e2⟩ := r.todo
      have hv := r.val
      have hnew : ∀ c ∈ new, 0 ≤ c ∧ c < (n : Int) ∧ rd o' c = rd out x + 1 := fun c hc => by
        have h3 := (e2 c).1 hc
        have h4 := hnb x x0 x1 c h3.1
        exact ⟨h4.1, h4.2, by rw [hv c h4.1, if_pos ⟨h3.2, h3.1⟩]⟩
      have hkeep : ∀ c : Int, 0 ≤ c → 0 ≤ rd out c → rd o' c = rd out c := fun c h0 h1 => by rw [hv c h0, if_neg (by omega)]
      have hmt : ∀ c ∈ t, 0 ≤ c ∧ c < (n : Int) ∧ rd out x ≤ rd out c ∧ rd o' c = rd out c := fun c hc => by
        have h3 := i.mem c (by simp [hc])
        exact ⟨h3.1, h3.2.1, hs.1 c hc, hkeep c h3.1 (by omega)⟩
      have hx' := hkeep x x0 (by omega)
      refine bfs_inv hnb ht k (rd out x) o' t' ?_ ⟨by rw [r.len, i.len], by omega, ?_, ?_, ?_, ?_, ?_, ?_, ?_, ?_⟩
      · have := r.size
        simp only [List.length_cons] at h
        omega
      · intro c h0 h1
        have := i.low c h0 h1
        rw [hv c h0]; split <;> omega
      · rw [hkeep dst ht.1 (by rw [i.zero]; omega), i.zero]
      · intro c h0 h1 h2
        rw [hv c h0] at h2
        split at h2
        · omega
        · exact i.only c h0 h1 h2
      · intro c hc
        rw [e1, List.mem_append] at hc
        rcases hc with hc | hc
        · have h3 := hmt c hc; exact ⟨h3.1, h3.2.1, by omega⟩
        · have h3 := hnew c hc; exact ⟨h3.1, h3.2.1, by omega⟩
      · rw [e1, List.pairwise_append]
        refine ⟨?_, ?_, ?_⟩
        · refine List.Pairwise.imp_of_mem ?_ hs.2
          intro a b ha hb hab
          rw [(hmt a ha).2.2.2, (hmt b hb).2.2.2]; exact hab
        · refine List.Pairwise.imp_of_mem (R := fun _ _ => True) ?_ (List.pairwise_of_forall (fun _ _ => trivial))
          intro a b ha hb _
          rw [(hnew a ha).2.2, (hnew b hb).2.2]; omega
        · intro a ha b hb
          have h3 := hmt a ha
          have h4 := i.top a h3.1 h3.2.1
          rw [h3.2.2.2, (hnew b hb).2.2]; omega
      · intro c h0 h1
        rw [hv c h0]
        split
        · omega
        · have := i.top c h0 h1; omega
      · intro c h0 h1 h2 h3
        rw [e1, List.mem_append] at h3
        by_cases hcx : c = x
        · subst hcx
          rw [hx']
          refine ⟨by omega, fun _ v hvn => ?_⟩
          have hr := hnb c h0 h1 v hvn
          rw [hv v hr.1]
          have h5 := i.top v hr.1 hr.2
          split
          · omega
          · rename_i hneg
            have : ¬ rd out v < 0 := fun hh => hneg ⟨hh, hvn⟩
            omega
        · by_cases hneg : rd out c < 0
          · by_cases hcn : c ∈ nb x
            · exact absurd (Or.inr ((e2 c).2 ⟨hcn, hneg⟩)) h3
            · rw [hv c h0, if_neg (fun hh => hcn hh.2)] at h2; omega
          · have hct : c ∉ x :: t := by
              intro hh
              rcases List.mem_cons.1 hh with hh | hh
              · exact hcx hh
              · exact h3 (Or.inl hh)
            have hd := i.done c h0 h1 (by omega) hct
            rw [hkeep c h0 (by omega)]
            refine ⟨by omega, fun hgo v hvn => ?_⟩
            have h6 := hd.2 hgo v hvn
            have hr := hnb c h0 h1 v hvn
            rw [hkeep v hr.1 h6.1]; exact h6
      · intro v h0 h1 h2
        rw [hv v h0] at h2 ⊢
        split at h2
        · rename_i hh
          exact ⟨x, x0, x1, hg, hh.2, by rw [hx', if_pos hh]; omega⟩
        · rename_i hh
          obtain ⟨u, u0, u1, ug, uv, ud⟩ := i.pred v h0 h1 h2
          exact ⟨u, u0, u1, ug, uv, by rw [if_neg hh, hkeep u u0 (by omega)]; exact ud⟩
    · rw [if_neg hg]
      refine bfs_inv hnb ht k (rd out x) out t ?_ ⟨i.len, by omega, i.low, i.zero, i.only, ?_, hs.2, ?_, ?_, i.pred⟩
      · simp only [List.length_cons] at h; omega
      · intro c hc
        have h3 := i.mem c (by simp [hc]); exact ⟨h3.1, h3.2.1, hs.1 c hc⟩
      · intro c h0 h1
        have := i.top c h0 h1; omega
      · intro c h0 h1 h2 h3
        by_cases hcx : c = x
        · subst hcx
          exact ⟨by omega, fun hh => absurd hh hg⟩
        · have hd := i.done c h0 h1 h2 (by simp [hcx, h3])
          exact ⟨by omega, hd.2⟩
/-- From one cell alone. -/
def bfsFrom (nb : Int → List Int) (go : Int → Bool) (n : Nat) (dst : Int) : List Int := bfs nb go (n + 2) ((List.replicate n (-1 : Int)).set dst.toNat 0) [dst]
theorem rd_replicate {n : Nat} {v c : Int} (h0 : 0 ≤ c) (h1 : c < n) : rd (List.replicate n v) c = v := by
  unfold rd; rw [getD_at (by rw [List.length_replicate]; omega)]; simp
theorem negs_le (l : List Int) : negs l ≤ l.length := List.countP_le_length
theorem bfs_start {nb : Int → List Int} {go : Int → Bool} {dst : Int} {n : Nat} (ht : 0 ≤ dst ∧ dst < (n : Int)) : BInv nb go dst n 0 ((List.replicate n (-1 : Int)).set dst.toNat 0) [dst] := by
  have hv : ∀ c : Int, 0 ≤ c → c < n → rd ((List.replicate n (-1 : Int)).set dst.toNat 0) c = if c = dst then 0 else -1 := fun c h0 h1 => by
    rw [rd_set ht.1 (by rw [List.length_replicate]; exact ht.2) h0, rd_replicate h0 h1]
  refine ⟨by simp, by omega, ?_, ?_, ?_, ?_, by simp, ?_, ?_, ?_⟩
  · intro c h0 h1; rw [hv c h0 h1]; split <;> omega
  · rw [hv dst ht.1 ht.2, if_pos rfl]
  · intro c h0 h1 h2; rw [hv c h0 h1] at h2; split at h2; assumption; omega
  · intro c hc; obtain rfl := List.mem_singleton.1 hc; exact ⟨ht.1, ht.2, by rw [hv c ht.1 ht.2, if_pos rfl]; omega⟩
  · intro c h0 h1; rw [hv c h0 h1]; split <;> omega
  · intro c h0 h1 h2 h3; rw [hv c h0 h1, if_neg (by simpa using h3)] at h2; omega
  · intro c h0 h1 h2; rw [hv c h0 h1] at h2; split at h2 <;> omega
theorem bfs_from {nb : Int → List Int} {go : Int → Bool} {dst : Int} {n : Nat} (hnb : ∀ c : Int, 0 ≤ c → c < n → ∀ v ∈ nb c, 0 ≤ v ∧ v < (n : Int)) (ht : 0 ≤ dst ∧ dst < (n : Int)) : Bfs nb go dst n (bfsFrom nb go n dst) := by
  refine bfs_inv hnb ht (n + 2) 0 _ _ ?_ (bfs_start ht)
  have := negs_le ((List.replicate n (-1 : Int)).set dst.toNat 0)
  simp only [List.length_set, List.length_replicate] at this
  simp only [List.length_cons, List.length_nil]
  omega

/-! #### Copy -/
theorem impl_copyInts_f (cs : List Int) (hn : cs.length ≤ 1048576) : impl_copyInts.f cs = some cs := by
  unfold impl_copyInts.f
  simp (disch := omega) only [List.length_nil, List.nil_append, ↓if_pos, ↓if_neg, if_pos, if_neg, decide_eq_true_eq, ↓reduceIte, ↓wrap_sc, wrap_id, some_bind, Int.toNat_natCast, rd_nat', getD_zero', Bool.not_true, Bool.not_false, Bool.false_eq_true, decide_true, decide_false]
theorem impl_copyFloor_f (w h : Int) (cs : List Int) (hn : cs.length ≤ 1048576) : impl_copyFloor.f w h cs = some (w, h, cs) := by
  unfold impl_copyFloor.f
  simp (disch := omega) only [impl_copyInts_f cs hn, ↓if_pos, ↓if_neg, if_pos, if_neg, decide_eq_true_eq, ↓reduceIte, ↓wrap_sc, wrap_id, some_bind, Int.toNat_natCast, rd_nat', getD_zero', Bool.not_true, Bool.not_false, Bool.false_eq_true, decide_true, decide_false]

/-! #### Turned -/
/-! A quarter to the right. -/
/-- Where a cell goes, and where the one at a cell comes from. -/
def turnTo (w h i : Int) : Int := i % w * h + (h - 1 - i / w)
def turnFrom (w h j : Int) : Int := (h - 1 - j % h) * w + j / h
theorem turnTo_from {w h i : Int} (f : Fits w h i) : (0 ≤ turnTo w h i ∧ turnTo w h i < h * w) ∧ turnFrom w h (turnTo w h i) = i := by
  obtain ⟨q1, q2, q3, q4, q5⟩ := f.quot
  have hw := f.w1; have hh := f.h1
  have e : turnTo w h i / h = i % w ∧ turnTo w h i % h = h - 1 - i / w := (Int.ediv_emod_unique (by omega)).2 ⟨by unfold turnTo; rw [Int.mul_comm h]; omega, by omega, by omega⟩
  have b1 : 0 ≤ i % w * h := Int.mul_nonneg q4 (by omega)
  have b2 : i % w * h + h ≤ h * w := by
    have := Int.mul_le_mul_of_nonneg_left (show i % w + 1 ≤ w by omega) (show 0 ≤ h by omega)
    rw [Int.mul_add, Int.mul_one, Int.mul_comm h (i % w)] at this; exact this
  refine ⟨⟨by unfold turnTo; omega, by unfold turnTo; omega⟩, ?_⟩
  unfold turnFrom
  rw [e.1, e.2, show h - 1 - (h - 1 - i / w) = i / w by omega, Int.mul_comm]
  omega
theorem turnFrom_to {w h j : Int} (f : Fits h w j) : (0 ≤ turnFrom w h j ∧ turnFrom w h j < w * h) ∧ turnTo w h (turnFrom w h j) = j := by
  obtain ⟨q1, q2, q3, q4, q5⟩ := f.quot
  have hw := f.h1; have hh := f.w1
  have e : turnFrom w h j / w = h - 1 - j % h ∧ turnFrom w h j % w = j / h := (Int.ediv_emod_unique (by omega)).2 ⟨by unfold turnFrom; rw [Int.mul_comm w]; omega, by omega, by omega⟩
  have b1 : 0 ≤ (h - 1 - j % h) * w := Int.mul_nonneg (by omega) (by omega)
  have b2 : (h - 1 - j % h) * w + w ≤ w * h := by
    have := Int.mul_le_mul_of_nonneg_left (show h - 1 - j % h + 1 ≤ h by omega) (show 0 ≤ w by omega)
    rw [Int.mul_add, Int.mul_one, Int.mul_comm w (h - 1 - j % h)] at this; exact this
  refine ⟨⟨by unfold turnFrom; omega, by unfold turnFrom; omega⟩, ?_⟩
  unfold turnTo
  rw [e.1, e.2, show h - 1 - (h - 1 - j % h) = j % h by omega, Int.mul_comm]
  omega
def turned (w h : Int) (cs : List Int) : List Int := (List.range cs.length).map (fun j : Nat => rd cs (turnFrom w h (j : Int)))
/-- What stands so far: the first i cells are where they go. -/
def TurnSo (w h : Int) (cs : List Int) (i : Nat) (out : List Int) : Prop := out.length = cs.length ∧ ∀ j : Nat, j < i → rd out (turnTo w h j) = rd cs j
theorem turnSo_step {w h : Int} {cs out : List Int} {i : Nat} (hf : floorOk w h cs = true) (hi : i < cs.length) (t : TurnSo w h cs i out) : TurnSo w h cs (i + 1) (out.set (turnTo w h i).toNat (rd cs i)) := by
  obtain ⟨a1, a2, a3, a4, a5⟩ := floorOk_size hf
  have fit : ∀ j : Nat, j < cs.length → Fits w h j := fun j hj => ⟨a1, a2, a3, a4, by omega, by omega⟩
  have b := turnTo_from (fit i hi)
  refine ⟨by rw [List.length_set]; exact t.1, fun j hj => ?_⟩
  have bj := turnTo_from (fit j (by omega))
  rw [rd_set b.1.1 (by rw [t.1, a5, Int.mul_comm]; exact b.1.2) bj.1.1]
  by_cases e : j = i
  · subst e; rw [if_pos rfl]
  · rw [if_neg (fun h2 => e (by have h3 := bj.2; rw [h2, b.2] at h3; omega))]
    exact t.2 j (by omega)
theorem turnSo_end {w h : Int} {cs out : List Int} (hf : floorOk w h cs = true) (t : TurnSo w h cs cs.length out) : out = turned w h cs := by
  obtain ⟨a1, a2, a3, a4, a5⟩ := floorOk_size hf
  apply List.ext_getElem
  · unfold turned; rw [List.length_map, List.length_range]; exact t.1
  · intro j h1 h2
    have hj : j < cs.length := by rw [← t.1]; exact h1
    have b := turnFrom_to (w := w) (h := h) (j := j) ⟨a3, a4, a1, a2, by omega, by rw [Int.mul_comm]; omega⟩
    have h3 := t.2 (turnFrom w h j).toNat (by omega)
    rw [Int.toNat_of_nonneg b.1.1, b.2, rd_nat h1] at h3
    rw [h3]
    simp [turned]
theorem turn_words {w h : Int} {i : Nat} (f : Fits w h i) : wrap64 (wrap64 (wrap64 (wrap64 (Int.tmod i w * h) + h) - 1) - wrap64 (Int.tdiv i w)) = turnTo w h i := by
  obtain ⟨q1, q2, q3, q4, q5⟩ := f.quot
  have hw := f.w2; have hh := f.h2
  have b1 : 0 ≤ (i : Int) % w * h := Int.mul_nonneg q4 (by omega)
  have b2 : (i : Int) % w * h ≤ 10 * 10 := Int.mul_le_mul (by omega) (by omega) (by omega) (by omega)
  rw [f.tmod, f.tdiv, wrap_id (x := (i : Int) % w * h) (by omega) (by omega), wrap_id (x := (i : Int) % w * h + h) (by omega) (by omega), wrap_id (x := (i : Int) % w * h + h - 1) (by omega) (by omega), wrap_id (by omega) (by omega)]
  unfold turnTo; omega
theorem impl_Turned_l0 (w h : Int) (cs : List Int) (hf : floorOk w h cs = true) : ∀ (d i : Nat) (out : List Int), i + d = cs.length → TurnSo w h cs i out → Ev (fun k => impl_Turned.l0 k cs cs.length i w h cs h w out) (h, w, turned w h cs)
  | 0, i, out, e, t => Ev.unroll (by
      simp (disch := omega) only [impl_Turned.l0, ↓if_pos, ↓if_neg, if_pos, if_neg, decide_eq_true_eq, ↓reduceIte, ↓wrap_sc, wrap_id, some_bind, Int.toNat_natCast, rd_nat', getD_zero', Bool.not_true, Bool.not_false, Bool.false_eq_true, decide_true, decide_false]
      obtain rfl : i = cs.length := by omega
      exact Ev.fin (by rw [turnSo_end hf t]))
  | d + 1, i, out, e, t => Ev.unroll (by
      have hi : i < cs.length := by omega
      obtain ⟨a1, a2, a3, a4, a5⟩ := floorOk_size hf
      have f : Fits w h i := ⟨a1, a2, a3, a4, by omega, by omega⟩
      have b := turnTo_from f
      have ht := t.1
      have b3 : turnTo w h i < out.length := by rw [ht, a5, Int.mul_comm]; exact b.1.2
      have e1 : (cs.length : Int) ≤ 100 := by rw [a5]; exact f.area
      simp only [impl_Turned.l0, turn_words f]
      simp (disch := omega) only [↓if_pos, ↓if_neg, if_pos, if_neg, decide_eq_true_eq, ↓reduceIte, ↓wrap_sc, wrap_id, some_bind, Int.toNat_natCast, rd_nat', getD_zero', Bool.not_true, Bool.not_false, Bool.false_eq_true, decide_true, decide_false]
      have ih := impl_Turned_l0 w h cs hf d (i + 1) _ (by omega) (turnSo_step hf hi t)
      rw [rd_nat'] at ih
      exact ih)
/-- The floor turned: its width, its height, its cells. -/
def turnedF (w h : Int) (cs : List Int) : Int × Int × List Int := if floorOk w h cs = true then (h, w, turned w h cs) else (w, h, cs)
theorem turnedF_length (w h : Int) (cs : List Int) : (turnedF w h cs).2.2.length = cs.length := by
  unfold turnedF; split
  · unfold turned; simp
  · rfl
theorem impl_Turned_f (w h : Int) (cs : List Int) (hn : cs.length ≤ 1048576) : Ev (fun k => impl_Turned.f k w h cs) (turnedF w h cs) := by
  unfold impl_Turned.f turnedF
  refine Ev.bind (impl_FloorOk_f w h cs (by unfold BIG; omega)) ?_
  by_cases h1 : floorOk w h cs = true
  · simp (disch := omega) only [h1, ↓if_pos, ↓if_neg, if_pos, if_neg, decide_eq_true_eq, ↓reduceIte, ↓wrap_sc, wrap_id, some_bind, Int.toNat_natCast, rd_nat', getD_zero', Bool.not_true, Bool.not_false, Bool.false_eq_true, decide_true, decide_false]
    exact impl_Turned_l0 w h cs h1 cs.length 0 _ (by omega) ⟨by simp, fun j hj => by omega⟩
  · simp (disch := omega) only [h1, impl_copyFloor_f w h cs hn, ↓if_pos, ↓if_neg, if_pos, if_neg, decide_eq_true_eq, ↓reduceIte, ↓wrap_sc, wrap_id, some_bind, Int.toNat_natCast, rd_nat', getD_zero', Bool.not_true, Bool.not_false, Bool.false_eq_true, decide_true, decide_false]
    exact Ev.now _

/-! #### CellsOf -/
def cellsOf (w h : Int) (cs : List Int) (kind : Int) : List Int := if floorOk w h cs = true then filtFrom cs.length 0 (fun j => cs.getD j 0 == kind) else []
theorem impl_CellsOf_l0 (cs : List Int) (kind : Int) (hn : cs.length ≤ 1048576) : ∀ (d i : Nat) (acc : List Int), i + d = cs.length → acc.length ≤ i →
    Ev (fun k => impl_CellsOf.l0 k kind acc cs cs.length i) (acc ++ filtFrom cs.length i (fun j => cs.getD j 0 == kind))
  | 0, i, acc, e, ha => Ev.unroll (by
      simp only [impl_CellsOf.l0]
      simp only [if_neg (show ¬ (i : Int) < cs.length by omega)]
      exact Ev.fin (by rw [filtFrom_end (by omega)]; simp))
  | d + 1, i, acc, e, ha => Ev.unroll (by
      have hi : i < cs.length := by omega
      simp only [impl_CellsOf.l0]
      simp only [if_pos (show (i : Int) < cs.length by omega), if_pos (show (0 : Int) ≤ i by omega), wrap_succ hi (show _ ≤ BIG by unfold BIG; omega), rd, Int.toNat_natCast, if_pos (show acc.length < 17592186044416 by omega)]
      by_cases h1 : cs.getD i 0 = kind
      · simp only [if_pos h1]
        have ih := impl_CellsOf_l0 cs kind hn d (i + 1) (acc ++ [(i : Int)]) (by omega) (by simp; omega)
        rw [filtFrom_yes hi (by simpa using h1)]
        simpa using ih
      · simp only [if_neg h1]
        rw [filtFrom_no hi (by simpa using h1)]
        exact impl_CellsOf_l0 cs kind hn d (i + 1) acc (by omega) (by omega))
theorem impl_CellsOf_f (w h : Int) (cs : List Int) (kind : Int) (hn : cs.length ≤ 1048576) : Ev (fun k => impl_CellsOf.f k w h cs kind) (cellsOf w h cs kind) := by
  unfold impl_CellsOf.f cellsOf
  refine Ev.bind (impl_FloorOk_f w h cs (by unfold BIG; omega)) ?_
  by_cases h0 : floorOk w h cs = true
  · simp only [if_pos h0]
    exact impl_CellsOf_l0 cs kind hn cs.length 0 [] (by omega) (by simp)
  · simp only [if_neg h0]
    exact Ev.now _
theorem cellsOf_le (w h : Int) (cs : List Int) (kind : Int) : (cellsOf w h cs kind).length ≤ cs.length := by
  unfold cellsOf
  split
  · have := @filtFrom_le cs.length 0 (fun j => cs.getD j 0 == kind); omega
  · simp

/-! #### FloorText -/
/-- The floor's letters from cell i on, behind what is told already. -/
def textFrom (w : Int) (cs : List Int) : Nat → Nat → List Int → List Int
  | 0, _, acc => acc
  | d + 1, i, acc => textFrom w cs d (i + 1) (if Int.tmod (i : Int) w = w - 1 then acc ++ [bt (⟨#[35, 46, 112, 115, 99]⟩ : ByteArray) (cs.getD i 0)] ++ [10] else acc ++ [bt (⟨#[35, 46, 112, 115, 99]⟩ : ByteArray) (cs.getD i 0)])
theorem floorOk_parts {w h : Int} {cs : List Int} (hf : floorOk w h cs = true) : 1 ≤ w ∧ w ≤ 10 ∧ cs.length ≤ 100 ∧ ∀ i, i < cs.length → 0 ≤ cs.getD i 0 ∧ cs.getD i 0 ≤ 4 := by
  unfold floorOk at hf
  simp only [Bool.and_eq_true, decide_eq_true_eq] at hf
  obtain ⟨⟨⟨h1, h2⟩, h3⟩, h4⟩ := hf
  have h5 := inB_mul h1 h2
  have h6 := inB_iff.1 h1
  refine ⟨h6.1, h6.2, by omega, fun i hi => ?_⟩
  exact inB_iff.1 (allFrom_iff.1 h4 i (by omega) hi)
theorem impl_drawn_l0 (w h : Int) (cs : List Int) (hf : floorOk w h cs = true) : ∀ (d i : Nat) (acc : List Int), i + d = cs.length → acc.length ≤ 2 * i → Ev (fun k => impl_drawn.l0 k acc cs cs.length i w h cs) (strOfNums (textFrom w cs d i acc))
  | 0, i, acc, e, _ => Ev.unroll (by
      simp only [impl_drawn.l0]
      simp only [if_neg (show ¬ (i : Int) < cs.length by omega)]
      exact Ev.now _)
  | d + 1, i, acc, e, ha => Ev.unroll (by
      obtain ⟨p1, p2, p3, p4⟩ := floorOk_parts hf
      have hi : i < cs.length := by omega
      have hk := p4 i hi
      simp only [impl_drawn.l0, rd_nat', wrap_sc (show i < 9223372036854775807 by omega), wrap_id (show -9223372036854775808 ≤ w - 1 by omega) (by omega)]
      simp only [if_pos (show (i : Int) < cs.length by omega), if_pos (show (0 : Int) ≤ i by omega), if_pos hk.1, if_pos (show cs.getD i 0 < 5 by omega), if_pos (show acc.length < 140737488355328 by omega), some_bind, if_neg (show ¬ w = 0 by omega)]
      rw [textFrom]
      by_cases ht : Int.tmod (i : Int) w = w - 1
      · simp only [if_pos ht]
        refine Ev.ifp (by rw [List.length_append]; simp only [List.length_cons, List.length_nil]; omega) ?_
        exact impl_drawn_l0 w h cs hf d (i + 1) _ (by omega) (by simp only [List.length_append, List.length_cons, List.length_nil]; omega)
      · simp only [if_neg ht]
        exact impl_drawn_l0 w h cs hf d (i + 1) _ (by omega) (by simp only [List.length_append, List.length_cons, List.length_nil]; omega))
/-- A floor as text; nothing where it is none. -/
def floorText (w h : Int) (cs : List Int) : ByteArray := if floorOk w h cs = true then strOfNums (textFrom w cs cs.length 0 []) else (⟨#[]⟩ : ByteArray)
theorem impl_FloorText_f (w h : Int) (cs : List Int) (hn : cs.length ≤ BIG) : Ev (fun k => impl_FloorText.f k w h cs) (floorText w h cs) := by
  unfold impl_FloorText.f floorText
  refine Ev.bind (impl_FloorOk_f w h cs hn) ?_
  by_cases hf : floorOk w h cs = true
  · simp only [if_pos hf]
    refine Ev.bind ?_ (Ev.now _)
    exact impl_drawn_l0 w h cs hf cs.length 0 [] (by omega) (by simp)
  · simp only [if_neg hf]; exact Ev.now _
/-! #### Lines -/
theorem ev_as {α : Type} {g : Nat → Option α} {r s : α} (h : Ev g r) (e : r = s) : Ev g s := e ▸ h
/-- A string of these bytes. -/
abbrev ba (l : List UInt8) : ByteArray := ⟨⟨l⟩⟩
theorem ba_data (s : ByteArray) : s = ba s.data.toList := rfl
theorem ba_size (l : List UInt8) : (ba l).size = l.length := rfl
theorem ba_toList (l : List UInt8) : (ba l).toList = l := by rw [Lib.toList_data]
theorem ba_bt {l : List UInt8} {i : Nat} : bt (ba l) (i : Int) = ((l.getD i 0).toNat : Int) := by
  unfold bt
  rw [Int.toNat_natCast]
  by_cases h : i < l.length
  · rw [dif_pos (by exact h)]
    rw [getD_at h]
    rfl
  · rw [dif_neg (by exact h)]
    rw [List.getD_eq_getElem?_getD, List.getElem?_eq_none (by omega)]
    rfl
theorem ba_extract (l : List UInt8) (a b : Nat) : (ba l).extract a b = ba ((l.take b).drop a) := by
  apply ByteArray.ext
  apply Array.ext'
  rw [ByteArray.data_extract]
  simp [List.drop_take]
/-- The first line, and what stands behind it. -/
def cutL : List UInt8 → Option (List UInt8 × List UInt8)
  | [] => none
  | c :: t => if c = 10 then some ([], t) else (cutL t).map fun p => (c :: p.1, p.2)
/-- The lines. -/
def splitL : List UInt8 → List (List UInt8)
  | [] => [[]]
  | c :: t => if c = 10 then [] :: splitL t else ((c :: (splitL t).headD []) :: (splitL t).tail)
theorem splitL_ne (l : List UInt8) : splitL l ≠ [] := by
  cases l with
  | nil => simp [splitL]
  | cons c t => rw [splitL]; split <;> simp
theorem splitL_none : ∀ (l : List UInt8), cutL l = none → splitL l = [l]
  | [], _ => rfl
  | c :: t, h => by
      rw [cutL] at h
      by_cases hc : c = 10
      · rw [if_pos hc] at h; exact absurd h (by simp)
      · rw [if_neg hc, Option.map_eq_none_iff] at h
        rw [splitL, if_neg hc, splitL_none t h]; rfl
theorem splitL_some : ∀ (l a b : List UInt8), cutL l = some (a, b) → splitL l = a :: splitL b ∧ l = a ++ 10 :: b
  | [], a, b, h => by simp [cutL] at h
  | c :: t, a, b, h => by
      rw [cutL] at h
      by_cases hc : c = 10
      · rw [if_pos hc] at h
        simp only [Option.some.injEq, Prod.mk.injEq] at h
        obtain ⟨rfl, rfl⟩ := h
        rw [splitL, if_pos hc, hc]
        exact ⟨rfl, rfl⟩
      · rw [if_neg hc] at h
        obtain ⟨⟨a', b'⟩, h1, h2⟩ := Option.map_eq_some_iff.1 h
        simp only [Prod.mk.injEq] at h2
        obtain ⟨rfl, rfl⟩ := h2
        obtain ⟨e1, e2⟩ := splitL_some t a' b' h1
        rw [splitL, if_neg hc, e1]
        exact ⟨rfl, by rw [e2]; rfl⟩
theorem index_cut : ∀ (l : List UInt8), Lib.indexByte l 10 = match cutL l with | none => -1 | some (a, _) => (a.length : Int)
  | [] => rfl
  | c :: t => by
      have ih := index_cut t
      rw [Lib.indexByte, cutL, ih]
      by_cases hc : c = 10
      · rw [if_pos hc, if_pos (by rw [hc]; rfl)]; rfl
      · rw [if_neg hc, if_neg (by simpa using hc)]
        cases hq : cutL t with
        | none => rfl
        | some p =>
          simp only [Option.map_some]
          rw [if_neg (by simp)]
          simp
theorem strings_Cut_f (l : List UInt8) (hl : l.length ≤ 1048576) : strings_Cut.f (ba l) (⟨#[10]⟩ : ByteArray) = some (match cutL l with | none => (ba l, (⟨#[]⟩ : ByteArray), false) | some (a, b) => (ba a, ba b, true)) := by
  unfold strings_Cut.f stringslite_Cut.f
  rw [show stringslite_Index.f (ba l) (⟨#[10]⟩ : ByteArray) = some (Lib.indexByte l 10) from rfl, index_cut]
  cases hq : cutL l with
  | none => rfl
  | some p =>
    obtain ⟨a, b⟩ := p
    obtain ⟨_, e⟩ := splitL_some l a b hq
    have hz : l.length = a.length + b.length + 1 := by rw [e]; simp; omega
    have hw : wrap64 ((a.length : Int) + ((1 : Nat) : Int)) = ((a.length + 1 : Nat) : Int) := wrap_sc (by omega)
    simp only [some_bind, show (⟨#[10]⟩ : ByteArray).size = 1 from rfl, hw, ba_size]
    rw [if_pos (by omega), if_pos (by omega), if_pos (by omega), if_pos (by omega), if_pos (by omega)]
    simp only [some_bind, Int.toNat_natCast, ba_extract]
    have q1 : (a ++ 10 :: b).take a.length = a := by simp
    have q2 : ((a ++ 10 :: b).take (a ++ 10 :: b).length).drop (a.length + 1) = b := by rw [List.take_length, List.drop_append]; simp
    rw [e]
    simp only [List.drop_zero, q1, q2]
theorem spec_l1Split_l0 (l : List UInt8) (hl : l.length ≤ 1048576) : ∀ (d i j : Nat) (out : List ByteArray), i + d = l.length → j ≤ i → out.length ≤ j → Ev (fun k => spec_l1Split.l0 k (ba l) 10 out j i) (out ++ ((((l.take i).drop j ++ (splitL (l.drop i)).headD []) :: (splitL (l.drop i)).tail).map ba))
  | 0, i, j, out, e, hj, ho => Ev.unroll (by
      have ei : i = l.length := by omega
      subst ei
      have e1 : wrap64 ((l.length : Int) + 1) = ((l.length + 1 : Nat) : Int) := wrap_sc (by omega)
      simp only [spec_l1Split.l0, ba_size, ba_extract, Int.toNat_natCast, e1]
      refine Ev.ifp (by omega) (Ev.ifp trivial (Ev.ifp (by omega) (Ev.ifp (by omega) (Ev.ifp (by omega) (Ev.unroll ?_)))))
      simp only [spec_l1Split.l0, ba_size]
      refine Ev.ifn (by omega) (Ev.fin ?_)
      simp [splitL])
  | d + 1, i, j, out, e, hj, ho => Ev.unroll (by
      have hi : i < l.length := by omega
      have e1 : wrap64 ((i : Int) + 1) = ((i + 1 : Nat) : Int) := wrap_sc (by omega)
      simp only [spec_l1Split.l0, ba_size, ba_extract, Int.toNat_natCast, e1, ba_bt]
      refine Ev.ifp (by omega) (Ev.ifn (by omega) (Ev.ifp (by omega) (Ev.ifp (by omega) ?_)))
      have hd : l.drop i = l[i] :: l.drop (i + 1) := drop_cons hi
      have hg : l.getD i 0 = l[i] := getD_at hi
      have ht : l.take (i + 1) = l.take i ++ [l[i]] := by rw [List.take_succ_eq_append_getElem hi]
      rw [hg, hd, splitL]
      by_cases hc : l[i] = 10
      · refine Ev.ifp (by rw [hc]; rfl) (Ev.ifp (by omega) (Ev.ifp (by omega) (Ev.ifp (by omega) ?_)))
        rw [if_pos hc]
        refine ev_as (spec_l1Split_l0 l hl d (i + 1) (i + 1) _ (by omega) (by omega) (by rw [List.length_append]; simp only [List.length_cons, List.length_nil]; omega)) ?_
        have h0 : (l.take (i + 1)).drop (i + 1) = [] := by rw [List.drop_eq_nil_iff]; simp; omega
        rw [h0]
        obtain ⟨x, xs, hx⟩ := List.exists_cons_of_ne_nil (splitL_ne (l.drop (i + 1)))
        rw [hx]
        simp
      · refine Ev.ifn (fun h9 => hc ?_) ?_
        · apply UInt8.toNat_inj.1
          rw [show ((10 : UInt8).toNat) = 10 from rfl]
          omega
        rw [if_neg hc]
        refine ev_as (spec_l1Split_l0 l hl d (i + 1) j _ (by omega) (by omega) (by omega)) ?_
        rw [ht, List.drop_append_of_le_length (by simp; omega)]
        simp)
theorem spec_l1Split_f (l : List UInt8) (hl : l.length ≤ 1048576) : Ev (fun k => spec_l1Split.f k (ba l) 10) ((splitL l).map ba) := by
  unfold spec_l1Split.f
  refine ev_as (spec_l1Split_l0 l hl l.length 0 0 [] (by omega) (by omega) (by simp)) ?_
  obtain ⟨x, xs, hx⟩ := List.exists_cons_of_ne_nil (splitL_ne l)
  simp [hx]
theorem splitL_size : ∀ (l : List UInt8), (splitL l).length ≤ l.length + 1
  | [] => by simp [splitL]
  | c :: t => by
      have ih := splitL_size t
      rw [splitL]
      split
      · simp; omega
      · simp; omega

/-! #### ParseFloor -/
/-- A letter's kind, -1 for any other letter. -/
def markB (c : UInt8) : Int := Lib.indexByte [35, 46, 112, 115, 99] c
theorem markB_eq (c : UInt8) : markB c = if c = 35 then 0 else if c = 46 then 1 else if c = 112 then 2 else if c = 115 then 3 else if c = 99 then 4 else -1 := by
  by_cases h1 : c = 35
  · subst h1; rfl
  by_cases h2 : c = 46
  · subst h2; rfl
  by_cases h3 : c = 112
  · subst h3; rfl
  by_cases h4 : c = 115
  · subst h4; rfl
  by_cases h5 : c = 99
  · subst h5; rfl
  rw [if_neg h1, if_neg h2, if_neg h3, if_neg h4, if_neg h5]
  unfold markB
  have g1 : ((35 : UInt8) == c) = false := beq_eq_false_iff_ne.2 (fun e => h1 e.symm)
  have g2 : ((46 : UInt8) == c) = false := beq_eq_false_iff_ne.2 (fun e => h2 e.symm)
  have g3 : ((112 : UInt8) == c) = false := beq_eq_false_iff_ne.2 (fun e => h3 e.symm)
  have g4 : ((115 : UInt8) == c) = false := beq_eq_false_iff_ne.2 (fun e => h4 e.symm)
  have g5 : ((99 : UInt8) == c) = false := beq_eq_false_iff_ne.2 (fun e => h5 e.symm)
  simp only [Lib.indexByte, g1, g2, g3, g4, g5]
  rfl
theorem byte_eq {c d : UInt8} : ((d.toNat : Int) = (c.toNat : Int)) ↔ c = d := by
  constructor
  · intro h; exact (UInt8.toNat_inj.1 (by omega)).symm
  · rintro rfl; rfl
theorem spec_l1Mark_f (c : UInt8) : Ev (fun k => spec_l1Mark.f k (c.toNat : Int)) (markB c) := by
  unfold spec_l1Mark.f
  rw [markB_eq]
  have w0 : wrap64 ((0 : Int) + 1) = 1 := by unfold wrap64; omega
  have w1 : wrap64 ((1 : Int) + 1) = 2 := by unfold wrap64; omega
  have w2 : wrap64 ((2 : Int) + 1) = 3 := by unfold wrap64; omega
  have w3 : wrap64 ((3 : Int) + 1) = 4 := by unfold wrap64; omega
  have w4 : wrap64 ((4 : Int) + 1) = 5 := by unfold wrap64; omega
  have b0 : bt (⟨#[35, 46, 112, 115, 99]⟩ : ByteArray) 0 = (((35 : UInt8).toNat : Nat) : Int) := rfl
  have b1 : bt (⟨#[35, 46, 112, 115, 99]⟩ : ByteArray) 1 = (((46 : UInt8).toNat : Nat) : Int) := rfl
  have b2 : bt (⟨#[35, 46, 112, 115, 99]⟩ : ByteArray) 2 = (((112 : UInt8).toNat : Nat) : Int) := rfl
  have b3 : bt (⟨#[35, 46, 112, 115, 99]⟩ : ByteArray) 3 = (((115 : UInt8).toNat : Nat) : Int) := rfl
  have b4 : bt (⟨#[35, 46, 112, 115, 99]⟩ : ByteArray) 4 = (((99 : UInt8).toNat : Nat) : Int) := rfl
  refine Ev.unroll ?_
  simp only [spec_l1Mark.l0, w0, b0, byte_eq]
  refine Ev.ifp (by omega) (Ev.ifp (by omega) (ev_ite (fun _ => Ev.now _) fun _ => Ev.unroll ?_))
  simp only [spec_l1Mark.l0, w1, b1, byte_eq]
  refine Ev.ifp (by omega) (Ev.ifp (by omega) (ev_ite (fun _ => Ev.now _) fun _ => Ev.unroll ?_))
  simp only [spec_l1Mark.l0, w2, b2, byte_eq]
  refine Ev.ifp (by omega) (Ev.ifp (by omega) (ev_ite (fun _ => Ev.now _) fun _ => Ev.unroll ?_))
  simp only [spec_l1Mark.l0, w3, b3, byte_eq]
  refine Ev.ifp (by omega) (Ev.ifp (by omega) (ev_ite (fun _ => Ev.now _) fun _ => Ev.unroll ?_))
  simp only [spec_l1Mark.l0, w4, b4, byte_eq]
  refine Ev.ifp (by omega) (Ev.ifp (by omega) (ev_ite (fun _ => Ev.now _) fun _ => Ev.unroll ?_))
  simp only [spec_l1Mark.l0]
  exact Ev.ifn (by omega) (Ev.now _)
theorem strings_IndexByte_mark (c : UInt8) : strings_IndexByte.f (⟨#[35, 46, 112, 115, 99]⟩ : ByteArray) (c.toNat : Int) = some (markB c) := by
  unfold strings_IndexByte.f stringslite_IndexByte.f
  rw [some_bind, Int.toNat_natCast]
  have e : c.toNat.toUInt8 = c := by simp
  rw [e]; rfl
/-- The kinds of a line; nothing where a letter is none of them. -/
def marksOf : List UInt8 → Option (List Int)
  | [] => some []
  | c :: t => if markB c < 0 then none else (marksOf t).map (markB c :: ·)
theorem marksOf_length : ∀ (l : List UInt8) (ms : List Int), marksOf l = some ms → ms.length = l.length
  | [], ms, h => by simp only [marksOf, Option.some.injEq] at h; rw [← h]; rfl
  | c :: t, ms, h => by
      rw [marksOf] at h
      by_cases hc : markB c < 0
      · rw [if_pos hc] at h; exact absurd h (by simp)
      · rw [if_neg hc] at h
        obtain ⟨m2, h1, h2⟩ := Option.map_eq_some_iff.1 h
        rw [← h2, List.length_cons, List.length_cons, marksOf_length t m2 h1]
/-- What a row's reader tells. -/
def rowOf (l : List UInt8) : List Int × Bool := match marksOf l with | none => ([], false) | some ms => (ms, inB ms.length 1 10)
theorem impl_row_l0 (l : List UInt8) (hl : l.length ≤ 1048576) : ∀ (d i : Nat) (acc : List Int), i + d = l.length → acc.length ≤ i → Ev (fun k => impl_row.l0 k (ba l) acc l.length i) (match marksOf (l.drop i) with | none => ([], false) | some ms => (acc ++ ms, inB ((acc ++ ms).length : Nat) 1 10))
  | 0, i, acc, e, ha => Ev.unroll (by
      simp only [impl_row.l0, impl_in_f, some_bind]
      refine Ev.ifn (by omega) (Ev.fin ?_)
      rw [drop_end (by omega)]
      simp [marksOf])
  | d + 1, i, acc, e, ha => Ev.unroll (by
      have hi : i < l.length := by omega
      have hg : l.getD i 0 = l[i] := getD_at hi
      simp only [impl_row.l0, ba_bt, hg, strings_IndexByte_mark, some_bind, ba_size, wrap_sc (show i < 9223372036854775807 by omega)]
      rw [drop_cons hi, marksOf]
      refine Ev.ifp (by omega) (Ev.ifp (by omega) (Ev.ifp (by omega) ?_))
      by_cases hm : markB l[i] < 0
      · rw [if_pos hm]
        exact Ev.ifp hm (Ev.now _)
      · rw [if_neg hm]
        refine Ev.ifn hm (Ev.ifp (by omega) ?_)
        refine ev_as (impl_row_l0 l hl d (i + 1) _ (by omega) (by rw [List.length_append]; simp only [List.length_cons, List.length_nil]; omega)) ?_
        cases marksOf (l.drop (i + 1)) with
        | none => rfl
        | some ms => simp)
theorem impl_row_f (l : List UInt8) (hl : l.length ≤ 1048576) : Ev (fun k => impl_row.f k (ba l)) (rowOf l) := by
  unfold impl_row.f rowOf
  refine ev_as (impl_row_l0 l hl l.length 0 [] (by omega) (by simp)) ?_
  rw [List.drop_zero]
  cases marksOf l with
  | none => rfl
  | some ms => rfl
/-- A floor of its text, from line n on. -/
def parseL : Nat → List UInt8 → Nat → Int → List Int → Int × Int × List Int × Int
  | 0, _, n, _, _ => (0, 0, [], (n : Int))
  | d + 1, l, n, W, cs => if l = [] ∧ n ≠ 0 then (W, (n : Int), cs, -1) else match cutL l with
    | none => (0, 0, [], (n : Int))
    | some (a, b) => match marksOf a with
      | none => (0, 0, [], (n : Int))
      | some ms => if inB ms.length 1 10 = true ∧ n ≠ 10 ∧ (n = 0 ∨ (ms.length : Int) = W) then parseL d b (n + 1) ms.length (cs ++ ms) else (0, 0, [], (n : Int))
theorem impl_ParseFloor_l0 : ∀ (d : Nat) (l : List UInt8) (n : Nat) (W : Int) (cs : List Int), l.length < d → l.length ≤ 1048576 → n ≤ 10 → cs.length ≤ 10 * n → Ev (fun k => impl_ParseFloor.l0 k (ba l) n W 0 cs) (parseL d l n W cs)
  | 0, l, n, W, cs, h, _, _, _ => by omega
  | d + 1, l, n, W, cs, h, hl, hn, hc => Ev.unroll (by
      simp only [impl_ParseFloor.l0, ba_toList]
      rw [parseL]
      have run : ¬ (l = [] ∧ n ≠ 0) → Ev (fun k => impl_ParseFloor.j1 k (ba l) n true W 0 cs) (match cutL l with
          | none => (0, 0, [], (n : Int))
          | some (a, b) => match marksOf a with
            | none => (0, 0, [], (n : Int))
            | some ms => if inB ms.length 1 10 = true ∧ n ≠ 10 ∧ (n = 0 ∨ (ms.length : Int) = W) then parseL d b (n + 1) ms.length (cs ++ ms) else (0, 0, [], (n : Int))) := fun _ => Ev.unroll (by
        simp only [impl_ParseFloor.j1, strings_Cut_f l hl, some_bind, if_true]
        cases hq : cutL l with
        | none =>
          simp only [Bool.false_eq_true, if_false]
          exact Ev.bind (impl_row_f l hl) (Ev.now _)
        | some p =>
          obtain ⟨a, b⟩ := p
          obtain ⟨_, e⟩ := splitL_some l a b hq
          have hz : l.length = a.length + b.length + 1 := by rw [e]; simp; omega
          simp only [if_true]
          refine Ev.bind (impl_row_f a (by omega)) ?_
          unfold rowOf
          cases hm : marksOf a with
          | none => simp only [Bool.false_eq_true, if_false]; exact Ev.now _
          | some ms =>
            have hml := marksOf_length a ms hm
            simp only
            by_cases h1 : inB (ms.length : Nat) 1 10 = true
            · have h1' := inB_iff.1 h1
              refine Ev.ifp h1 ?_
              by_cases h2 : n = 10
              · refine Ev.ifp (by omega) ?_
                rw [if_neg (fun q => q.2.1 h2)]; exact Ev.now _
              · refine Ev.ifn (by omega) ?_
                have e1 : wrap64 ((n : Int) + 1) = ((n + 1 : Nat) : Int) := wrap_sc (by omega)
                simp only [e1]
                have go : Ev (fun k => impl_ParseFloor.l0 k (ba b) ((n + 1 : Nat) : Int) (ms.length : Int) 0 (cs ++ ms)) (parseL d b (n + 1) ms.length (cs ++ ms)) := impl_ParseFloor_l0 d b (n + 1) ms.length (cs ++ ms) (by omega) (by omega) (by omega) (by rw [List.length_append]; omega)
                by_cases h3 : n = 0
                · rw [if_pos ⟨h1, h2, Or.inl h3⟩]
                  exact Ev.ifn (by omega) (Ev.ifp (by omega) go)
                · refine Ev.ifp (by omega) ?_
                  by_cases h4 : (ms.length : Int) = W
                  · rw [if_pos ⟨h1, h2, Or.inr h4⟩]
                    exact Ev.ifp h4 (Ev.ifp (by omega) go)
                  · rw [if_neg (fun q => q.2.2.elim h3 h4)]
                    exact Ev.ifn h4 (Ev.now _)
            · rw [if_neg (fun q => h1 q.1)]
              exact Ev.ifn h1 (Ev.now _))
      by_cases h0 : l = []
      · refine Ev.ifp h0 ?_
        by_cases hn0 : n = 0
        · rw [if_neg (fun q => q.2 hn0)]
          have e2 : ((n : Int) == 0) = true := by rw [hn0]; rfl
          rw [e2]; exact run (fun q => q.2 hn0)
        · rw [if_pos ⟨h0, hn0⟩]
          have e2 : ((n : Int) == 0) = false := by rw [beq_eq_false_iff_ne]; omega
          rw [e2]
          exact Ev.unroll (by simp only [impl_ParseFloor.j1, Bool.false_eq_true, if_false]; exact Ev.now _)
      · refine Ev.ifn h0 ?_
        rw [if_neg (fun q => h0 q.1)]
        exact run (fun q => h0 q.1))

theorem spec_ParseFloor_l1 (ls : List ByteArray) (i : Nat) (a : List UInt8) (W H : Int) (hi : i < ls.length) (hl : rdOf ByteArray.empty ls (i : Int) = ba a) (ha : a.length ≤ 1048576) (w1 : wrap64 ((i : Int) + 1) = ((i + 1 : Nat) : Int)) (w2 : wrap64 (H + 1) = H + 1) (R : List Int → Int × Int × List Int × Int) : ∀ (d j : Nat) (acc : List Int), j + d = a.length → acc.length ≤ 1048576 + j → (∀ ms, marksOf (a.drop j) = some ms → Ev (fun k => spec_ParseFloor.l0 k ls ((i + 1 : Nat) : Int) W (H + 1) (acc ++ ms)) (R (acc ++ ms))) → Ev (fun k => spec_ParseFloor.l1 k ls i j W H acc) (match marksOf (a.drop j) with | none => (0, 0, [], (i : Int)) | some ms => R (acc ++ ms))
  | 0, j, acc, e, hc, ht => Ev.unroll (by
      simp only [spec_ParseFloor.l1, hl, ba_size, w1, w2]
      rw [drop_end (by omega)] at ht ⊢
      refine Ev.ifp (by omega) (Ev.ifp (by omega) (Ev.ifn (by omega) ?_))
      have h := ht [] rfl
      rw [List.append_nil] at h
      exact ev_as h (by simp [marksOf]))
  | d + 1, j, acc, e, hc, ht => Ev.unroll (by
      have hj : j < a.length := by omega
      have hg : a.getD j 0 = a[j] := getD_at hj
      simp only [spec_ParseFloor.l1, hl, ba_size, ba_bt, hg, w1, w2, wrap_sc (show j < 9223372036854775807 by omega)]
      rw [drop_cons hj, marksOf] at ht ⊢
      refine Ev.ifp (by omega) (Ev.ifp (by omega) (Ev.ifp (by omega) (Ev.ifp (by omega) (Ev.bind (spec_l1Mark_f a[j]) ?_))))
      by_cases hm : markB a[j] < 0
      · rw [if_pos hm]
        exact Ev.ifp hm (Ev.now _)
      · rw [if_neg hm] at ht ⊢
        refine Ev.ifn hm (Ev.ifp (by omega) ?_)
        refine ev_as (spec_ParseFloor_l1 ls i a W H hi hl ha w1 w2 R d (j + 1) (acc ++ [markB a[j]]) (by omega) (by rw [List.length_append]; simp only [List.length_cons, List.length_nil]; omega) (fun ms hms => ?_)) ?_
        · have h := ht (markB a[j] :: ms) (by rw [hms]; rfl)
          rw [List.append_assoc]
          exact h
        · cases marksOf (a.drop (j + 1)) with
          | none => rfl
          | some ms => simp)
theorem rdOf_drop {ls : List ByteArray} {i : Nat} {x : ByteArray} {xs : List ByteArray} (h : ls.drop i = x :: xs) : rdOf ByteArray.empty ls (i : Int) = x ∧ ls.drop (i + 1) = xs ∧ ls.length = i + 1 + xs.length := by
  have h1 : i < ls.length := by
    by_cases q : i < ls.length
    · exact q
    · rw [drop_end (by omega)] at h; exact absurd h (by simp)
  rw [drop_cons h1] at h
  injection h with e1 e2
  refine ⟨?_, e2, ?_⟩
  · unfold rdOf; rw [Int.toNat_natCast, getD_at h1, e1]
  · have := congrArg List.length e2
    rw [List.length_drop] at this; omega
theorem spec_ParseFloor_l0 (ls : List ByteArray) (hls : ls.length ≤ 1048577) : ∀ (d : Nat) (l : List UInt8) (i : Nat) (W : Int) (cs : List Int), l.length < d → l.length ≤ 1048576 → i ≤ 10 → cs.length ≤ 10 * i → ls.drop i = (splitL l).map ba → (i = 0 → W = ((splitL l).headD []).length) → Ev (fun k => spec_ParseFloor.l0 k ls i W i cs) (parseL d l i W cs)
  | 0, l, i, W, cs, h, _, _, _, _, _ => by omega
  | d + 1, l, i, W, cs, h, hl, hi, hc, hd, hw => Ev.unroll (by
      have w1 : wrap64 ((i : Int) + 1) = ((i + 1 : Nat) : Int) := wrap_sc (by omega)
      have w3 : wrap64 ((ls.length : Int) - 1) = (ls.length : Int) - 1 := wrap_id (by omega) (by omega)
      simp only [spec_ParseFloor.l0, w3]
      rw [parseL]
      cases hq : cutL l with
      | none =>
        rw [splitL_none l hq] at hd hw
        obtain ⟨h1, h2, h3⟩ := rdOf_drop hd
        have hlast : (i : Int) = (ls.length : Int) - 1 := by simp at h3; omega
        simp only [h1, ba_toList]
        refine Ev.ifp (by omega) (Ev.ifp hlast (Ev.ifp (by omega) ?_))
        have eb : ((i : Int) == (ls.length : Int) - 1) = true := beq_iff_eq.2 hlast
        rw [eb]
        by_cases h0 : l = []
        · refine Ev.ifp h0 (Ev.unroll ?_)
          simp only [spec_ParseFloor.j1]
          by_cases hi0 : i = 0
          · rw [if_neg (fun q => q.2 hi0)]
            refine Ev.ifn (by simp; omega) (Ev.ifp (by trivial) (Ev.unroll ?_))
            simp only [spec_ParseFloor.j2, if_true]
            exact Ev.now _
          · rw [if_pos ⟨h0, hi0⟩]
            exact Ev.ifp (by simp; omega) (Ev.now _)
        · rw [if_neg (fun q => h0 q.1)]
          refine Ev.ifn h0 (Ev.unroll ?_)
          simp only [spec_ParseFloor.j1, Bool.false_eq_true, if_false, if_true]
          refine Ev.unroll ?_
          simp only [spec_ParseFloor.j2, if_true]
          exact Ev.now _
      | some p =>
        obtain ⟨a, b⟩ := p
        obtain ⟨es, el⟩ := splitL_some l a b hq
        have hz : l.length = a.length + b.length + 1 := by rw [el]; simp; omega
        rw [es] at hd hw
        obtain ⟨h1, h2, h3⟩ := rdOf_drop hd
        obtain ⟨y, ys, hy⟩ := List.exists_cons_of_ne_nil (splitL_ne b)
        have h4 : 1 ≤ ((splitL b).map ba).length := by rw [hy]; simp
        have hlast : ¬ (i : Int) = (ls.length : Int) - 1 := by omega
        have eb : ((i : Int) == (ls.length : Int) - 1) = false := beq_eq_false_iff_ne.2 hlast
        have hne : l ≠ [] := by intro q; rw [q] at hz; simp at hz
        rw [if_neg (fun q => hne q.1), eb]
        refine Ev.ifp (by omega) (Ev.ifn hlast (Ev.unroll ?_))
        simp only [spec_ParseFloor.j1, Bool.false_eq_true, if_false, h1, ba_size, spec_l1In_f, some_bind]
        have bad : ∀ (c : Prop) [Decidable c] (x : List Int → Int × Int × List Int × Int), (∀ ms, marksOf a = some ms → ¬ c) → (match marksOf a with | none => ((0 : Int), (0 : Int), ([] : List Int), (i : Int)) | some ms => if c then x ms else (0, 0, [], (i : Int))) = (0, 0, [], (i : Int)) := by
          intro c _ x hb
          cases hm : marksOf a with
          | none => rfl
          | some ms => exact if_neg (hb ms hm)
        by_cases h10 : (i : Int) = 10
        · refine Ev.ifp h10 (Ev.unroll ?_)
          simp only [spec_ParseFloor.j2, if_true]
          refine Ev.fin ?_
          cases hm : marksOf a with
          | none => rfl
          | some ms => exact (if_neg (fun q => q.2.1 (by omega))).symm
        · refine Ev.ifn h10 (Ev.ifp (by omega) (Ev.ifp (by omega) ?_))
          by_cases h5 : inB (a.length : Nat) 1 10 = true
          · refine Ev.ifp h5 (Ev.unroll ?_)
            simp only [spec_ParseFloor.j2]
            have h5' := inB_iff.1 h5
            by_cases h6 : (a.length : Int) = W
            · refine Ev.ifn (by simp [h6]) ?_
              have w2 : wrap64 ((i : Int) + 1) = (i : Int) + 1 := wrap_id (by omega) (by omega)
              refine ev_as (spec_ParseFloor_l1 ls i a W i (by omega) h1 (by omega) w1 w2 (fun cs' => parseL d b (i + 1) W cs') a.length 0 cs (by omega) (by omega) (fun ms hms => ?_)) ?_
              · rw [List.drop_zero] at hms
                have hml := marksOf_length a ms hms
                exact spec_ParseFloor_l0 ls hls d b (i + 1) W (cs ++ ms) (by omega) (by omega) (by omega) (by rw [List.length_append]; omega) h2 (by omega)
              · rw [List.drop_zero]
                cases hm : marksOf a with
                | none => rfl
                | some ms =>
                  have hml := marksOf_length a ms hm
                  simp only
                  rw [if_pos ⟨by rw [hml]; exact h5, by omega, Or.inr (by rw [hml]; exact h6)⟩, hml, h6]
            · refine Ev.ifp (by simp [h6]) (Ev.fin ?_)
              cases hm : marksOf a with
              | none => rfl
              | some ms =>
                have hml := marksOf_length a ms hm
                refine (if_neg (fun q => ?_)).symm
                rcases q.2.2 with q | q
                · have := hw q; simp at this; omega
                · omega
          · refine Ev.ifn h5 (Ev.unroll ?_)
            simp only [spec_ParseFloor.j2, if_true]
            refine Ev.fin ?_
            cases hm : marksOf a with
            | none => rfl
            | some ms => exact (if_neg (fun q => h5 (by rw [← marksOf_length a ms hm]; exact q.1))).symm)
theorem impl_ParseFloor_f (s : ByteArray) (hs : s.size ≤ 1048576) : Ev (fun k => impl_ParseFloor.f k s) (parseL (s.data.toList.length + 1) s.data.toList 0 0 []) := by
  unfold impl_ParseFloor.f
  exact impl_ParseFloor_l0 (s.data.toList.length + 1) s.data.toList 0 0 [] (by omega) hs (by omega) (by simp)
theorem parseL_zero (d : Nat) (l : List UInt8) (W W' : Int) (cs : List Int) : parseL d l 0 W cs = parseL d l 0 W' cs := by
  cases d with
  | zero => rfl
  | succ d => simp [parseL]
theorem spec_ParseFloor_f (s : ByteArray) (hs : s.size ≤ 1048576) : Ev (fun k => spec_ParseFloor.f k s) (parseL (s.data.toList.length + 1) s.data.toList 0 0 []) := by
  unfold spec_ParseFloor.f
  have hs' : s.data.toList.length ≤ 1048576 := hs
  refine Ev.bind (spec_l1Split_f s.data.toList hs') ?_
  obtain ⟨y, ys, hy⟩ := List.exists_cons_of_ne_nil (splitL_ne s.data.toList)
  have hz := splitL_size s.data.toList
  refine Ev.ifp (by rw [hy]; simp) ?_
  rw [parseL_zero _ _ 0 ((rdOf ByteArray.empty ((splitL s.data.toList).map ba) 0).size : Int)]
  exact spec_ParseFloor_l0 _ (by rw [List.length_map]; omega) (s.data.toList.length + 1) s.data.toList 0 _ [] (by omega) hs' (by omega) (by simp) (by simp) (fun _ => by rw [hy]; rfl)
/-- Cells are few. -/
theorem parseL_length : ∀ (d : Nat) (l : List UInt8) (n : Nat) (W : Int) (cs : List Int), n ≤ 10 → cs.length ≤ 10 * n → (parseL d l n W cs).2.2.1.length ≤ 100
  | 0, _, _, _, _, _, _ => by simp [parseL]
  | d + 1, l, n, W, cs, hn, hc => by
      rw [parseL]
      split
      · simp only; omega
      · cases cutL l with
        | none => simp
        | some p =>
          obtain ⟨a, b⟩ := p
          simp only
          cases marksOf a with
          | none => simp
          | some ms =>
            simp only
            by_cases h : inB (ms.length : Nat) 1 10 = true ∧ n ≠ 10 ∧ (n = 0 ∨ (ms.length : Int) = W)
            · rw [if_pos h]
              have := inB_iff.1 h.1
              exact parseL_length d b (n + 1) ms.length (cs ++ ms) (by omega) (by rw [List.length_append]; omega)
            · rw [if_neg h]; simp

/-! #### Floors -/
/-! ### turned four times -/
theorem turned_length (w h : Int) (cs : List Int) : (turned w h cs).length = cs.length := by unfold turned; simp
theorem turned_getD {w h : Int} {cs : List Int} {j : Nat} (hj : j < cs.length) : (turned w h cs).getD j 0 = rd cs (turnFrom w h (j : Int)) := by
  rw [getD_at (by rw [turned_length]; exact hj)]
  unfold turned
  rw [List.getElem_map, List.getElem_range]
theorem list_as_map (cs : List Int) : cs = (List.range cs.length).map (fun i => cs.getD i 0) := by
  apply List.ext_getElem
  · simp
  · intro j h1 h2
    rw [List.getElem_map, List.getElem_range, getD_at h1]
theorem turned_perm {w h : Int} {cs : List Int} (hf : floorOk w h cs = true) : (turned w h cs).Perm cs := by
  obtain ⟨a1, a2, a3, a4, a5⟩ := floorOk_size hf
  have b := fun (j : Nat) (hj : j < cs.length) => turnFrom_to (w := w) (h := h) (j := j) ⟨a3, a4, a1, a2, by omega, by rw [Int.mul_comm]; omega⟩
  have e1 : turned w h cs = ((List.range cs.length).map (fun j : Nat => (turnFrom w h (j : Int)).toNat)).map (fun i => cs.getD i 0) := by
    unfold turned
    rw [List.map_map]
    rfl
  have e2 : ((List.range cs.length).map (fun j : Nat => (turnFrom w h (j : Int)).toNat)).Perm (List.range cs.length) := by
    refine (List.perm_ext_iff_of_nodup ?_ List.nodup_range).2 (fun x => ?_)
    · unfold List.Nodup
      rw [List.pairwise_map]
      refine List.Pairwise.imp_of_mem (fun {p q} hp hq hne h2 => hne ?_) (List.nodup_range (n := cs.length))
      rw [List.mem_range] at hp hq
      have b1 := b p hp
      have b2 := b q hq
      have h3 : turnFrom w h (p : Int) = turnFrom w h (q : Int) := by omega
      rw [h3, b2.2] at b1
      omega
    · rw [List.mem_map, List.mem_range]
      constructor
      · rintro ⟨j, hj, rfl⟩
        rw [List.mem_range] at hj
        have := b j hj
        omega
      · intro hx
        have c := turnTo_from (w := w) (h := h) (i := x) ⟨a1, a2, a3, a4, by omega, by omega⟩
        refine ⟨(turnTo w h x).toNat, ?_, ?_⟩
        · rw [List.mem_range]
          have c2 := c.1.2
          rw [Int.mul_comm] at c2
          omega
        · rw [Int.toNat_of_nonneg c.1.1, c.2]; omega
  rw [e1]
  have e3 := e2.map (fun i => cs.getD i 0)
  rw [← list_as_map] at e3
  exact e3
theorem floorOk_of {w h : Int} {cs : List Int} (hw : inB w 1 10 = true) (hh : inB h 1 10 = true) (hl : (cs.length : Int) = w * h) (hc : ∀ x ∈ cs, 0 ≤ x ∧ x ≤ 4) : floorOk w h cs = true := by
  unfold floorOk
  rw [hw, hh, decide_eq_true hl]
  simp only [Bool.true_and]
  refine allFrom_iff.2 (fun j _ hj => ?_)
  rw [getD_at hj]
  exact inB_iff.2 (hc _ (List.getElem_mem hj))
theorem floorOk_vals {w h : Int} {cs : List Int} (hf : floorOk w h cs = true) : inB w 1 10 = true ∧ inB h 1 10 = true ∧ (cs.length : Int) = w * h ∧ ∀ x ∈ cs, 0 ≤ x ∧ x ≤ 4 := by
  have hp := floorOk_parts hf
  unfold floorOk at hf
  simp only [Bool.and_eq_true, decide_eq_true_eq] at hf
  refine ⟨hf.1.1.1, hf.1.1.2, hf.1.2, fun x hx => ?_⟩
  obtain ⟨i, hi, rfl⟩ := List.getElem_of_mem hx
  have := hp.2.2.2 i hi
  rw [getD_at hi] at this
  exact this
theorem floorOk_perm {w h : Int} {cs ds : List Int} (hf : floorOk w h cs = true) (hp : ds.Perm cs) : floorOk w h ds = true ∧ floorOk h w ds = true := by
  obtain ⟨h1, h2, h3, h4⟩ := floorOk_vals hf
  have hl := hp.length_eq
  refine ⟨floorOk_of h1 h2 (by rw [hl]; exact h3) (fun x hx => h4 x (hp.mem_iff.1 hx)), floorOk_of h2 h1 (by rw [hl, Int.mul_comm]; exact h3) (fun x hx => h4 x (hp.mem_iff.1 hx))⟩
theorem turn_twice {w h : Int} {cs : List Int} (hf : floorOk w h cs = true) : turned h w (turned w h cs) = cs.reverse := by
  obtain ⟨a1, a2, a3, a4, a5⟩ := floorOk_size hf
  apply List.ext_getElem
  · rw [turned_length, turned_length, List.length_reverse]
  · intro j h1 h2
    have hj : j < cs.length := by rw [turned_length, turned_length] at h1; exact h1
    have f : Fits w h (j : Int) := ⟨a1, a2, a3, a4, by omega, by omega⟩
    obtain ⟨q1, q2, q3, q4, q5⟩ := f.quot
    have b := turnFrom_to (w := h) (h := w) (j := j) f
    have b' : turnFrom h w (j : Int) < (cs.length : Int) := by rw [a5, Int.mul_comm]; exact b.1.2
    rw [← getD_at (d := 0) h1, turned_getD (by rw [turned_length]; exact hj)]
    rw [show turnFrom h w (j : Int) = (((turnFrom h w (j : Int)).toNat : Nat) : Int) by omega, rd_nat', turned_getD (by omega), List.getElem_reverse]
    have e : turnFrom h w (j : Int) / h = w - 1 - (j : Int) % w ∧ turnFrom h w (j : Int) % h = (j : Int) / w := (Int.ediv_emod_unique (by omega)).2 ⟨by unfold turnFrom; rw [Int.mul_comm h]; omega, by omega, by omega⟩
    have e2 : turnFrom w h (((turnFrom h w (j : Int)).toNat : Nat) : Int) = ((cs.length - 1 - j : Nat) : Int) := by
      rw [Int.toNat_of_nonneg b.1.1]
      unfold turnFrom at e ⊢
      rw [e.1, e.2, Int.sub_mul, Int.sub_mul, Int.one_mul, Int.mul_comm h w, Int.mul_comm ((j : Int) / w) w]
      omega
    rw [e2, rd_nat', getD_at (by omega)]
theorem turn_four {w h : Int} {cs : List Int} (hf : floorOk w h cs = true) : turned h w (turned w h (turned h w (turned w h cs))) = cs := by
  have h1 := floorOk_perm hf (turned_perm hf)
  have h2 := floorOk_perm h1.2 (turned_perm h1.2)
  rw [turn_twice h2.2, turn_twice hf, List.reverse_reverse]
theorem countFrom (cs : List Int) (k : Int) : ∀ (d i : Nat), i + d = cs.length → (filtFrom cs.length i (fun j => cs.getD j 0 == k)).length = (cs.drop i).countP (fun x => x == k)
  | 0, i, e => by rw [filtFrom_end (by omega), drop_end (by omega)]; rfl
  | d + 1, i, e => by
      have hi : i < cs.length := by omega
      have ih := countFrom cs k d (i + 1) (by omega)
      rw [drop_cons hi, List.countP_cons]
      by_cases h : (cs[i] == k) = true
      · rw [filtFrom_yes hi (by rw [getD_at hi]; exact h), if_pos h, List.length_cons, ih]
      · rw [filtFrom_no hi (by rw [getD_at hi]; simpa using h), if_neg h, ih]; rfl
theorem cellsOf_count {w h : Int} {cs : List Int} (hf : floorOk w h cs = true) (k : Int) : (cellsOf w h cs k).length = cs.countP (fun x => x == k) := by
  unfold cellsOf
  rw [if_pos hf, countFrom cs k cs.length 0 (by omega), List.drop_zero]
/-! ### text, and what is read of it -/
abbrev toB (xs : List Int) : List UInt8 := xs.map fun n => UInt8.ofNat n.toNat
abbrev mkI (k : Int) : Int := bt (⟨#[35, 46, 112, 115, 99]⟩ : ByteArray) k
theorem mark_back {k : Int} (h0 : 0 ≤ k) (h1 : k ≤ 4) : markB (UInt8.ofNat (mkI k).toNat) = k ∧ UInt8.ofNat (mkI k).toNat ≠ 10 := by
  have h : k = 0 ∨ k = 1 ∨ k = 2 ∨ k = 3 ∨ k = 4 := by omega
  rcases h with rfl | rfl | rfl | rfl | rfl <;> exact ⟨by rfl, by decide⟩
theorem cutL_line (rest : List UInt8) : ∀ (row : List Int), (∀ x ∈ row, 0 ≤ x ∧ x ≤ 4) → cutL (toB (row.map mkI) ++ 10 :: rest) = some (toB (row.map mkI), rest)
  | [], _ => rfl
  | k :: t, h => by
      have hk := h k (by simp)
      have hb := mark_back hk.1 hk.2
      have ih := cutL_line rest t (fun x hx => h x (by simp [hx]))
      simp only [List.map_cons, List.cons_append, cutL]
      rw [if_neg hb.2]
      unfold toB at ih
      rw [ih]
      rfl
theorem marksOf_line : ∀ (row : List Int), (∀ x ∈ row, 0 ≤ x ∧ x ≤ 4) → marksOf (toB (row.map mkI)) = some row
  | [], _ => rfl
  | k :: t, h => by
      have hk := h k (by simp)
      have hb := mark_back hk.1 hk.2
      have ih := marksOf_line t (fun x hx => h x (by simp [hx]))
      simp only [List.map_cons, marksOf]
      unfold toB at ih
      rw [hb.1, if_neg (by omega), ih]
      rfl
/-- The rows from row y on, m of them, as text. -/
def rowsT (W : Nat) (cs : List Int) : Nat → Nat → List Int
  | 0, _ => []
  | m + 1, y => ((cs.drop (y * W)).take W).map mkI ++ 10 :: rowsT W cs m (y + 1)
theorem textFrom_row (W : Nat) (cs : List Int) (y rest : Nat) : ∀ (e x : Nat) (acc : List Int), x + (e + 1) = W → y * W + W ≤ cs.length → textFrom (W : Int) cs (e + 1 + rest) (y * W + x) acc = textFrom (W : Int) cs rest (y * W + W) (acc ++ ((cs.drop (y * W + x)).take (e + 1)).map mkI ++ [10])
  | 0, x, acc, h, hl => by
      have hi : y * W + x < cs.length := by omega
      have ht : Int.tmod ((y * W + x : Nat) : Int) (W : Int) = (W : Int) - 1 := by
        rw [← Int.ofNat_tmod, Nat.mul_comm, Nat.mul_add_mod, Nat.mod_eq_of_lt (by omega)]; omega
      rw [show 0 + 1 + rest = rest + 1 by omega, textFrom, if_pos ht, drop_cons hi, getD_at hi, show y * W + x + 1 = y * W + W by omega]
      rfl
  | e + 1, x, acc, h, hl => by
      have hi : y * W + x < cs.length := by omega
      have ht : ¬ Int.tmod ((y * W + x : Nat) : Int) (W : Int) = (W : Int) - 1 := by
        rw [← Int.ofNat_tmod, Nat.mul_comm, Nat.mul_add_mod, Nat.mod_eq_of_lt (by omega)]; omega
      have ih := textFrom_row W cs y rest e (x + 1) (acc ++ [mkI cs[y * W + x]]) (by omega) hl
      rw [show e + 1 + 1 + rest = (e + 1 + rest) + 1 by omega, textFrom, if_neg ht, getD_at hi, show y * W + x + 1 = y * W + (x + 1) by omega, ih, drop_cons hi, List.take_succ_cons, List.map_cons]
      simp [Nat.add_assoc]
theorem textFrom_rows (W : Nat) (hW : 1 ≤ W) (cs : List Int) : ∀ (m y : Nat) (acc : List Int), (y + m) * W = cs.length → textFrom (W : Int) cs (m * W) (y * W) acc = acc ++ rowsT W cs m y
  | 0, y, acc, h => by simp [textFrom, rowsT]
  | m + 1, y, acc, h => by
      have e1 : y * W + (m * W + W) = cs.length := by rw [← h, Nat.add_mul, Nat.succ_mul]
      have ih := textFrom_rows W hW cs m (y + 1) (acc ++ ((cs.drop (y * W)).take W).map mkI ++ [10]) (by rw [← h]; congr 1; omega)
      rw [Nat.succ_mul (n := y)] at ih
      have h2 := textFrom_row W cs y (m * W) (W - 1) 0 acc (by omega) (by omega)
      rw [show W - 1 + 1 = W by omega, Nat.add_zero] at h2
      rw [Nat.succ_mul, Nat.add_comm, h2, ih, rowsT]
      simp
theorem rowsT_length (W : Nat) (cs : List Int) : ∀ (m y : Nat), (y + m) * W = cs.length → (rowsT W cs m y).length = m * (W + 1)
  | 0, y, h => by simp [rowsT]
  | m + 1, y, h => by
      have e1 : y * W + (m * W + W) = cs.length := by rw [← h, Nat.add_mul, Nat.succ_mul]
      have ih := rowsT_length W cs m (y + 1) (by rw [← h]; congr 1; omega)
      rw [rowsT, List.length_append, List.length_map, List.length_take, List.length_drop, List.length_cons, ih, Nat.succ_mul]
      omega
theorem parse_rows (W H : Nat) (hW : 1 ≤ W ∧ W ≤ 10) (hH : H ≤ 10) (cs : List Int) (hl : H * W = cs.length) (hc : ∀ x ∈ cs, 0 ≤ x ∧ x ≤ 4) : ∀ (m y d : Nat) (acc : List Int), y + m = H → (m = 0 → y ≠ 0) → (rowsT W cs m y).length < d → parseL d (toB (rowsT W cs m y)) y (W : Int) acc = ((W : Int), (H : Int), acc ++ (cs.drop (y * W)).take (m * W), -1)
  | _, _, 0, _, _, _, h => by omega
  | 0, y, d + 1, acc, h, h0, _ => by
      rw [parseL, rowsT, if_pos ⟨rfl, h0 rfl⟩]
      simp; omega
  | m + 1, y, d + 1, acc, h, h0, hd => by
      have e1 : y * W + (m * W + W) = cs.length := by rw [← hl, ← h, Nat.add_mul, Nat.succ_mul]
      have hrow : ∀ x ∈ (cs.drop (y * W)).take W, 0 ≤ x ∧ x ≤ 4 := fun x hx => hc x (List.mem_of_mem_drop (List.mem_of_mem_take hx))
      have hrl : ((cs.drop (y * W)).take W).length = W := by rw [List.length_take, List.length_drop]; omega
      have e2 : toB (rowsT W cs (m + 1) y) = toB (((cs.drop (y * W)).take W).map mkI) ++ 10 :: toB (rowsT W cs m (y + 1)) := by
        rw [rowsT]; unfold toB; rw [List.map_append, List.map_cons]; rfl
      rw [rowsT] at hd
      simp only [List.length_append, List.length_cons] at hd
      have ih := parse_rows W H hW hH cs hl hc m (y + 1) d (acc ++ (cs.drop (y * W)).take W) (by omega) (by omega) (by omega)
      rw [e2, parseL, if_neg (fun q => by have := q.1; simp at this), cutL_line _ _ hrow]
      simp only
      rw [marksOf_line _ hrow]
      simp only
      rw [hrl, if_pos ⟨inB_iff.2 (by omega), by omega, Or.inr rfl⟩, ih]
      congr 3
      rw [List.append_assoc, show (m + 1) * W = W + m * W by rw [Nat.succ_mul]; omega, List.take_add, List.drop_drop, show (y + 1) * W = y * W + W by rw [Nat.succ_mul]]
theorem floorText_back {w h : Int} {cs : List Int} (hf : floorOk w h cs = true) : (floorText w h cs).size = ((w + 1) * h).toNat ∧ (floorText w h cs).size ≤ 110 ∧ parseL ((floorText w h cs).data.toList.length + 1) (floorText w h cs).data.toList 0 0 [] = (w, h, cs, -1) := by
  obtain ⟨a1, a2, a3, a4, a5⟩ := floorOk_size hf
  obtain ⟨_, _, _, hc⟩ := floorOk_vals hf
  obtain ⟨W, rfl⟩ : ∃ W : Nat, w = (W : Int) := ⟨w.toNat, by omega⟩
  obtain ⟨H, rfl⟩ : ∃ H : Nat, h = (H : Int) := ⟨h.toNat, by omega⟩
  have hl : H * W = cs.length := by
    have : ((cs.length : Nat) : Int) = ((W * H : Nat) : Int) := by rw [a5]; simp
    rw [Nat.mul_comm]; omega
  have ht : textFrom (W : Int) cs cs.length 0 [] = rowsT W cs H 0 := by
    have := textFrom_rows W (by omega) cs H 0 [] (by rw [Nat.zero_add]; exact hl)
    rw [Nat.zero_mul, hl, List.nil_append] at this
    exact this
  have hz := rowsT_length W cs H 0 (by rw [Nat.zero_add]; exact hl)
  have e : floorText (W : Int) (H : Int) cs = strOfNums (rowsT W cs H 0) := by unfold floorText; rw [if_pos hf, ht]
  have hle : H * (W + 1) ≤ 10 * 11 := Nat.mul_le_mul (by omega) (by omega)
  rw [e, strOfNums_size, strOfNums_data, hz]
  refine ⟨?_, by omega, ?_⟩
  · have : ((W : Int) + 1) * (H : Int) = ((H * (W + 1) : Nat) : Int) := by rw [Int.mul_comm]; simp
    rw [this, Int.toNat_natCast]
  · rw [parseL_zero _ _ 0 (W : Int), List.length_map]
    have := parse_rows W H (by omega) (by omega) cs hl hc H 0 ((rowsT W cs H 0).length + 1) [] (by omega) (by omega) (by omega)
    unfold toB at this
    rw [this, Nat.zero_mul, List.drop_zero, hl, List.take_length, List.nil_append]

/-! #### FnFloors -/
theorem floors_l1 (t : ByteArray) (i : Nat) (w h a b : Int) (cs r : List Int) (hf : floorOk w h cs = true) (hr : floorOk a b r = true) (hp : r.Perm cs) (hR : Ev (fun k => laws_FnFloors.l0 k t ((i + 1 : Nat) : Int) w h cs a b r) true) (hi : i < 4) : ∀ (d j : Nat), j + d = 5 → Ev (fun k => laws_FnFloors.l1 k t i j w h cs a b r) true
  | 0, j, e => Ev.unroll (by
      simp only [laws_FnFloors.l1, wrap_sc (show i < 9223372036854775807 by omega)]
      exact Ev.ifn (by omega) hR)
  | d + 1, j, e => Ev.unroll (by
      have ha := floorOk_area hf
      have hb := floorOk_area hr
      simp only [laws_FnFloors.l1, wrap_sc (show j < 9223372036854775807 by omega)]
      refine Ev.ifp (by omega) (Ev.bind (impl_CellsOf_f a b r (j : Int) (by omega)) (Ev.bind (impl_CellsOf_f w h cs (j : Int) (by omega)) (Ev.ifp ?_ (floors_l1 t i w h a b cs r hf hr hp hR hi d (j + 1) (by omega)))))
      rw [cellsOf_count hr, cellsOf_count hf, hp.countP_eq])
theorem floors_l0 (t : ByteArray) (i : Nat) (w h a b : Int) (cs r : List Int) (hf : floorOk w h cs = true) (hr : floorOk a b r = true) (hp : r.Perm cs) (hi : i < 4) (hR : Ev (fun k => laws_FnFloors.l0 k t ((i + 1 : Nat) : Int) w h cs b a (turned a b r)) true) : Ev (fun k => laws_FnFloors.l0 k t i w h cs a b r) true := Ev.unroll (by
  have hb := floorOk_area hr
  simp only [laws_FnFloors.l0]
  refine Ev.ifp (by omega) ?_
  have e := impl_Turned_f a b r (by omega)
  unfold turnedF at e
  rw [if_pos hr] at e
  have h1 := floorOk_perm hr (turned_perm hr)
  exact Ev.bind e (floors_l1 t i w h b a cs (turned a b r) hf h1.2 ((turned_perm hr).trans hp) hR hi 5 0 (by omega)))
theorem FnFloors : laws_FnFloors.Pure := by
  intro b hm hb2 _
  refine Ev.rounds ?_
  unfold laws_FnFloors.f
  simp only [laws_big.f, some_bind, decide_eq_true_eq]
  refine ev_ite' (fun _ => Ev.now _) (fun hbig => ?_)
  obtain ⟨w, h, cs, p, q, e, hd, p0, p1, q0, q1⟩ := DrawFloor_ok b (by omega)
  have hf := hd.ok
  have ha := floorOk_area hf
  obtain ⟨a1, a2, a3, a4, a5⟩ := floorOk_size hf
  have hB : cs.length ≤ BIG := by unfold BIG; omega
  obtain ⟨f1, f2, f3⟩ := floorText_back hf
  have et := impl_FloorText_f w h cs hB
  have ep := impl_ParseFloor_f (floorText w h cs) (by omega)
  have eo := impl_FloorOk_f w h cs hB
  rw [f3] at ep
  rw [hf] at eo
  have hz : ((floorText w h cs).size : Int) = (w + 1) * h := by
    rw [f1]
    exact Int.toNat_of_nonneg (Int.mul_nonneg (by omega) (by omega))
  have hm1 : (w + 1) * h ≤ 11 * 10 := Int.mul_le_mul (by omega) a4 (by omega) (by omega)
  have hm0 : 0 ≤ (w + 1) * h := Int.mul_nonneg (by omega) (by omega)
  refine Ev.bind e (Ev.bind et (Ev.bind ep ?_))
  refine Ev.ifp rfl (Ev.bind eo (Ev.ifp rfl (Ev.bind et (Ev.ifp rfl ?_))))
  simp only [wrap_id (show -9223372036854775808 ≤ w + 1 by omega) (by omega), wrap_id (show -9223372036854775808 ≤ (w + 1) * h by omega) (by omega), hz, bne_self_eq_false]
  refine Ev.unroll ?_
  simp only [laws_FnFloors.j0]
  refine Ev.ifn (by decide) ?_
  have r1 := floorOk_perm hf (turned_perm hf)
  have r2 := floorOk_perm r1.2 (turned_perm r1.2)
  have r3 := floorOk_perm r2.2 (turned_perm r2.2)
  have s1 := turned_perm hf
  have s2 := (turned_perm r1.2).trans s1
  have s3 := (turned_perm r2.2).trans s2
  refine floors_l0 _ 0 w h w h cs cs hf hf (List.Perm.refl _) (by omega) ?_
  refine floors_l0 _ 1 w h h w cs _ hf r1.2 s1 (by omega) ?_
  refine floors_l0 _ 2 w h w h cs _ hf r2.2 s2 (by omega) ?_
  refine floors_l0 _ 3 w h h w cs _ hf r3.2 s3 (by omega) ?_
  rw [turn_four hf]
  refine Ev.unroll ?_
  simp only [laws_FnFloors.l0]
  refine Ev.ifn (by omega) (Ev.bind et (Ev.fin ?_))
  simp

end Go.Proofs.Ytdlkmjilakaklaa.Pure
