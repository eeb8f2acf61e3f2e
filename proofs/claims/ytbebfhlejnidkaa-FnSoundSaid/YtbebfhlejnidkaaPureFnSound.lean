/- Proved here: the law FnSound, over numbers and lists: for all arguments it returns true; no condition. -/
import Derived.Test.YtbebfhlejnidkaaPFnSoundx19
namespace Go.Proofs.Ytbebfhlejnidkaa.Pure
open Go.RowKit Go.Proofs.Ytbebfhlejnidkaa.PFnSound Go.Proofs.YtbebfhlejnidkaaW.PrintWords Go.Proofs.YtbebfhlejnidkaaW.PrintLast
set_option linter.unusedVariables false
set_option linter.unusedSimpArgs false

theorem Ev.unroll {α : Type} {g : Nat → Option α} {r : α} (h : Ev (fun k => g (k + 1)) r) : Ev g r := Ev.step (fun _ => rfl) h
theorem Ev.fin {α : Type} {r s : α} (h : r = s) : Ev (fun _ => some r) s := by rw [h]; exact Ev.now _
theorem wrap_id {x : Int} (h0 : -9223372036854775808 ≤ x) (h1 : x ≤ 9223372036854775807) : wrap64 x = x := by unfold wrap64; omega
abbrev BIG : Nat := 4611686018427387904
theorem wrap_succ {i n : Nat} (h : i < n) (hn : n ≤ BIG) : wrap64 ((i : Int) + 1) = ((i + 1 : Nat) : Int) := by unfold wrap64; unfold BIG at hn; omega
theorem rd_nat {xs : List Int} {i : Nat} (h : i < xs.length) : rd xs (i : Int) = xs[i] := by unfold rd; simp [List.getD, h]
theorem drop_cons {α : Type} {xs : List α} {i : Nat} (h : i < xs.length) : xs.drop i = xs[i] :: xs.drop (i + 1) := List.drop_eq_getElem_cons h
theorem drop_end {α : Type} {xs : List α} {i : Nat} (h : xs.length ≤ i) : xs.drop i = [] := List.drop_of_length_le h
theorem fill_step {α : Type} (ys zs : List α) (x : α) {i : Nat} (hi : i = ys.length) (hz : 0 < zs.length) : (ys ++ zs).set i x = (ys ++ [x]) ++ zs.drop 1 := by
 subst hi
 match zs, hz with
 | z :: zs, _ => simp
theorem some_bind {α β : Type} (a : α) (f : α → Option β) : (some a).bind f = f a := rfl
theorem getD_at {α : Type} {xs : List α} {d : α} {i : Nat} (h : i < xs.length) : xs.getD i d = xs[i] := by simp [List.getD, h]
def allFrom (n i : Nat) (p : Nat → Bool) : Bool := (List.range' i (n - i)).all p
theorem allFrom_end {n i : Nat} {p : Nat → Bool} (h : n ≤ i) : allFrom n i p = true := by
 unfold allFrom
 rw [show n - i = 0 by omega]; rfl
theorem allFrom_step {n i : Nat} {p : Nat → Bool} (h : i < n) : allFrom n i p = (p i && allFrom n (i + 1) p) := by
 unfold allFrom
 rw [show n - i = (n - (i + 1)) + 1 by omega, List.range'_succ, List.all_cons]
theorem allFrom_no {n i : Nat} {p : Nat → Bool} (h : i < n) (hp : p i = false) : allFrom n i p = false := by rw [allFrom_step h, hp, Bool.false_and]
theorem allFrom_yes {n i : Nat} {p : Nat → Bool} (h : i < n) (hp : p i = true) : allFrom n i p = allFrom n (i + 1) p := by rw [allFrom_step h, hp, Bool.true_and]
theorem allFrom_iff {n i : Nat} {p : Nat → Bool} : allFrom n i p = true ↔ ∀ j, i ≤ j → j < n → p j = true := by
 unfold allFrom
 rw [List.all_eq_true]
 constructor
 ·intro h j h1 h2
  exact h j (by rw [List.mem_range'_1]; omega)
 ·intro h j hj
  rw [List.mem_range'_1] at hj
  exact h j hj.1 (by omega)
def filtFrom (n i : Nat) (p : Nat → Bool) : List Int := ((List.range' i (n - i)).filter p).map (fun j : Nat => (j : Int))
theorem filtFrom_end {n i : Nat} {p : Nat → Bool} (h : n ≤ i) : filtFrom n i p = [] := by
 unfold filtFrom
 rw [show n - i = 0 by omega]; rfl
theorem filtFrom_yes {n i : Nat} {p : Nat → Bool} (h : i < n) (hp : p i = true) : filtFrom n i p = (i : Int) :: filtFrom n (i + 1) p := by
 unfold filtFrom
 rw [show n - i = (n - (i + 1)) + 1 by omega, List.range'_succ, List.filter_cons, if_pos hp, List.map_cons]
theorem filtFrom_no {n i : Nat} {p : Nat → Bool} (h : i < n) (hp : p i = false) : filtFrom n i p = filtFrom n (i + 1) p := by
 unfold filtFrom
 rw [show n - i = (n - (i + 1)) + 1 by omega, List.range'_succ, List.filter_cons, if_neg (by rw [hp]; decide)]
theorem mem_filtFrom {n i : Nat} {p : Nat → Bool} {x : Int} : x ∈ filtFrom n i p ↔ ∃ j : Nat, i ≤ j ∧ j < n ∧ p j = true ∧ x = (j : Int) := by
 unfold filtFrom
 simp only [List.mem_map, List.mem_filter, List.mem_range'_1]
 constructor
 ·rintro ⟨j, ⟨⟨h1, h2⟩, h3⟩, rfl⟩; exact ⟨j, h1, by omega, h3, rfl⟩
 ·rintro ⟨j, h1, h2, h3, rfl⟩; exact ⟨j, ⟨⟨h1, by omega⟩, h3⟩, rfl⟩
theorem wrap_sc {i : Nat} (h : i < 9223372036854775807) : wrap64 ((i : Int) + 1) = ((i + 1 : Nat) : Int) := by unfold wrap64; omega
theorem rd_nat' {xs : List Int} {i : Nat} : rd xs (i : Int) = xs.getD i 0 := by unfold rd; rw [Int.toNat_natCast]
theorem getD_zero' {α : Type} {xs : List α} {d : α} : xs.getD (0 : Int).toNat d = xs.getD 0 d := rfl
theorem ev_ite {α : Type} {c : Prop} [Decidable c] {g h : Nat → Option α} {r s : α} (h1 : c → Ev g r) (h2 : ¬ c → Ev h s) : Ev (fun k => if c then g k else h k) (if c then r else s) := by
 by_cases hc : c
 ·simp only [if_pos hc]; exact h1 hc
 ·simp only [if_neg hc]; exact h2 hc
theorem Ev.ifp {α : Type} {c : Prop} [Decidable c] {g h : Nat → Option α} {r : α} (hc : c) (e : Ev g r) : Ev (fun k => if c then g k else h k) r := by simp only [if_pos hc]; exact e
theorem Ev.ifn {α : Type} {c : Prop} [Decidable c] {g h : Nat → Option α} {r : α} (hc : ¬ c) (e : Ev h r) : Ev (fun k => if c then g k else h k) r := by simp only [if_neg hc]; exact e
theorem ev_ite' {α : Type} {c : Prop} [Decidable c] {g h : Nat → Option α} {r : α} (h1 : c → Ev g r) (h2 : ¬ c → Ev h r) : Ev (fun k => if c then g k else h k) r := by
 by_cases hc : c
 ·simp only [if_pos hc]; exact h1 hc
 ·simp only [if_neg hc]; exact h2 hc

theorem bits_and_small (x : Int) {m : Nat} (hm : m < 256) : 0 ≤ Go.bits .and .i64 x (m : Int) ∧ Go.bits .and .i64 x (m : Int) ≤ (m : Int) := by
 unfold Go.bits
 show 0 ≤ IntKind.i64.wrap ((BitVec.ofInt 64 x &&& BitVec.ofInt 64 (m : Int)).toNat : Int) ∧ IntKind.i64.wrap ((BitVec.ofInt 64 x &&& BitVec.ofInt 64 (m : Int)).toNat : Int) ≤ (m : Int)
 rw [BitVec.toNat_and, BitVec.ofInt_natCast, BitVec.toNat_ofNat, Nat.mod_eq_of_lt (show m < 2 ^ 64 by omega)]
 have h : (BitVec.ofInt 64 x).toNat &&& m ≤ m := Nat.and_le_right
 rw [i64_w, wrap_id (by omega) (by omega)]
 omega
theorem l1Byte_ok (b : List Int) (i h : Int) (hi : 0 ≤ i) (hb : b.length ≤ 1048576) : ∃ x i' h' : Int, spec_l1Byte.f b i h = some (x, i', h') ∧ 0 ≤ x ∧ x ≤ 255 ∧ 0 ≤ i' := by
 unfold spec_l1Byte.f
 by_cases h1 : i < (b.length : Int)
 ·rw [if_pos h1, if_pos hi, wrap_id (x := i + 1) (by omega) (by omega)]
  have := bits_and_small (m := 255) (wrap64 (Go.bits .and .i64 (Go.bits .xor .i64 (wrap64 (wrap64 (h * 6364136223846793005) + 1442695040888963407) / 8589934592) (wrap64 (wrap64 (h * 6364136223846793005) + 1442695040888963407) / 140737488355328)) 255 + wrap64 (rd b i))) (by omega)
  exact ⟨_, _, _, rfl, this.1, this.2, by omega⟩
 ·rw [if_neg h1]
  have := bits_and_small (m := 255) (Go.bits .xor .i64 (wrap64 (wrap64 (h * 6364136223846793005) + 1442695040888963407) / 8589934592) (wrap64 (wrap64 (h * 6364136223846793005) + 1442695040888963407) / 140737488355328)) (by omega)
  exact ⟨_, _, _, rfl, this.1, this.2, by omega⟩
theorem l1Below_ok (b : List Int) (i h n : Int) (hi : 0 ≤ i) (hb : b.length ≤ 1048576) : ∃ x i' h' : Int, spec_l1Below.f b i h n = some (x, i', h') ∧ 0 ≤ i' ∧ 0 ≤ x ∧ (0 < n → x < n) ∧ (n ≤ 0 → x = 0) := by
 unfold spec_l1Below.f
 by_cases h1 : n ≤ 0
 ·rw [if_pos h1]
  exact ⟨_, _, _, rfl, hi, by omega, by omega, fun _ => rfl⟩
 ·rw [if_neg h1]
  obtain ⟨x, i1, s1, e1, x0, x1, hi1⟩ := l1Byte_ok b i h hi hb
  rw [e1]
  simp only [some_bind]
  by_cases h2 : n ≤ 256
  ·rw [if_pos h2, if_neg (by omega)]
   refine ⟨_, _, _, rfl, hi1, ?_, fun _ => ?_, fun h => by omega⟩
   ·rw [Int.tmod_eq_emod_of_nonneg x0]; exact Int.emod_nonneg _ (by omega)
   ·rw [Int.tmod_eq_emod_of_nonneg x0]; exact Int.emod_lt_of_pos _ (by omega)
  ·rw [if_neg h2]
   obtain ⟨y, i2, s2, e2, y0, y1, hi2⟩ := l1Byte_ok b i1 s1 hi1 hb
   rw [e2]
   simp only [some_bind]
   obtain ⟨z, i3, s3, e3, z0, z1, hi3⟩ := l1Byte_ok b i2 s2 hi2 hb
   rw [e3]
   simp only [some_bind]
   rw [if_neg (by omega), wrap_id (x := x * 65536) (by omega) (by omega), wrap_id (x := y * 256) (by omega) (by omega), wrap_id (x := x * 65536 + y * 256) (by omega) (by omega), wrap_id (x := x * 65536 + y * 256 + z) (by omega) (by omega)]
   refine ⟨_, _, _, rfl, hi3, ?_, fun _ => ?_, fun h => by omega⟩
   ·rw [Int.tmod_eq_emod_of_nonneg (by omega)]; exact Int.emod_nonneg _ (by omega)
   ·rw [Int.tmod_eq_emod_of_nonneg (by omega)]; exact Int.emod_lt_of_pos _ (by omega)
theorem l1Once_ok (b : List Int) (i h n : Int) (hi : 0 ≤ i) (hb : b.length ≤ 1048576) : ∃ (x : Bool) (i' h' : Int), spec_l1Once.f b i h n = some (x, i', h') ∧ 0 ≤ i' := by
 obtain ⟨x, i1, s1, e1, hi1, _⟩ := l1Below_ok b i h n hi hb
 unfold spec_l1Once.f
 rw [e1]
 exact ⟨_, _, _, rfl, hi1⟩
theorem l1Int_ok (b : List Int) (i h : Int) (l : List Int) (hi : 0 ≤ i) (hb : b.length ≤ 1048576) (hl : 0 < l.length) (hl2 : l.length ≤ 1048576) : ∃ x i' h' : Int, spec_l1Int.f b i h l = some (x, i', h') ∧ 0 ≤ i' ∧ x ∈ l := by
 obtain ⟨x, i1, s1, e1, hi1, x0, x1, _⟩ := l1Below_ok b i h l.length hi hb
 have x2 := x1 (by omega)
 unfold spec_l1Int.f
 rw [e1]
 simp only [some_bind]
 rw [if_pos x0, if_pos x2]
 refine ⟨_, _, _, rfl, hi1, ?_⟩
 unfold rd
 rw [getD_at (by omega)]
 exact List.getElem_mem _
theorem l1Str_ok (b : List Int) (i h : Int) (l : List ByteArray) (hi : 0 ≤ i) (hb : b.length ≤ 1048576) (hl : 0 < l.length) (hl2 : l.length ≤ 1048576) : ∃ (x : ByteArray) (i' h' : Int), spec_l1Str.f b i h l = some (x, i', h') ∧ 0 ≤ i' ∧ x ∈ l := by
 obtain ⟨x, i1, s1, e1, hi1, x0, x1, _⟩ := l1Below_ok b i h l.length hi hb
 have x2 := x1 (by omega)
 unfold spec_l1Str.f
 rw [e1]
 simp only [some_bind]
 rw [if_pos x0, if_pos x2]
 refine ⟨_, _, _, rfl, hi1, ?_⟩
 unfold rdOf
 rw [getD_at (by omega)]
 exact List.getElem_mem _
theorem l1New_ok (b : List Int) (hb : b.length ≤ 1048576) : ∃ h : Int, Ev (fun k => spec_l1New.f k b) (b, 0, h) := by
 have key : ∀ (d i : Nat) (h : Int), i + d = b.length → ∃ h' : Int, Ev (fun k => spec_l1New.l0 k b h i) (b, 0, h') := by
  intro d
  induction d with
  | zero =>
   intro i h e
   exact ⟨h, Ev.unroll (by simp only [spec_l1New.l0]; exact Ev.ifn (by omega) (Ev.now _))⟩
  | succ d ih =>
   intro i h e
   by_cases h4 : (i : Int) < 4000
   ·obtain ⟨h', hh⟩ := ih (i + 1) (Go.bits .and .i64 (wrap64 (wrap64 (wrap64 (h * 137) + wrap64 (rd b i)) + 11)) 1073741823) (by omega)
    refine ⟨h', Ev.unroll ?_⟩
    simp only [spec_l1New.l0]
    refine Ev.ifp (by omega) (Ev.ifp h4 (Ev.ifp (by omega) ?_))
    rw [wrap_sc (by omega)]
    exact hh
   ·exact ⟨h, Ev.unroll (by simp only [spec_l1New.l0]; exact Ev.ifp (by omega) (Ev.ifn h4 (Ev.now _)))⟩
 exact key b.length 0 _ (by omega)

def inB (a b c : Int) : Bool := decide (b ≤ a ∧ a ≤ c)
theorem inB_iff {a b c : Int} : inB a b c = true ↔ b ≤ a ∧ a ≤ c := by unfold inB; exact decide_eq_true_iff
theorem impl_in_f (a b c : Int) : impl_in.f a b c = some (inB a b c) := by
 unfold impl_in.f inB
 by_cases h : b ≤ a <;> by_cases h2 : a ≤ c <;> simp [h, h2]
theorem spec_l1In_f (a b c : Int) : spec_l1In.f a b c = some (inB a b c) := by
 unfold spec_l1In.f inB
 by_cases h : b ≤ a <;> by_cases h2 : a ≤ c <;> simp [h, h2]

def besideL (w h c : Int) : List Int :=
 (if c / w > 0 then [c - w] else []) ++ ((if c % w > 0 then [c - 1] else []) ++ ((if c % w < w - 1 then [c + 1] else []) ++ (if c / w < h - 1 then [c + w] else [])))
theorem besideL_le (w h c : Int) : (besideL w h c).length ≤ 4 := by
 unfold besideL
 split <;> split <;> split <;> split <;> simp
structure Fits (w h c : Int) : Prop where
 w1 : 1 ≤ w
 w2 : w ≤ 10
 h1 : 1 ≤ h
 h2 : h ≤ 10
 c1 : 0 ≤ c
 c2 : c < w * h
theorem Fits.area {w h c : Int} (f : Fits w h c) : w * h ≤ 100 := by
 have e2 : w * h ≤ 10 * 10 := Int.mul_le_mul f.w2 f.h2 (by have := f.h1; omega) (by omega)
 omega
theorem Fits.quot {w h c : Int} (f : Fits w h c) : 0 ≤ c / w ∧ c / w < h ∧ c = w * (c / w) + c % w ∧ 0 ≤ c % w ∧ c % w < w := by
 refine ⟨Int.ediv_nonneg f.c1 (by have := f.w1; omega), ?_, (Int.mul_ediv_add_emod c w).symm, Int.emod_nonneg _ (by have := f.w1; omega), Int.emod_lt_of_pos _ (by have := f.w1; omega)⟩
 apply Int.ediv_lt_of_lt_mul (by have := f.w1; omega)
 have := f.c2
 rw [Int.mul_comm]; exact this
theorem Fits.tdiv {w h c : Int} (f : Fits w h c) : wrap64 (Int.tdiv c w) = c / w := by
 have q := f.quot; have a := f.h2
 rw [Int.tdiv_eq_ediv_of_nonneg f.c1, wrap_id (by omega) (by omega)]
theorem Fits.tmod {w h c : Int} (f : Fits w h c) : Int.tmod c w = c % w := Int.tmod_eq_emod_of_nonneg f.c1
theorem mem_besideL {w h c x : Int} (f : Fits w h c) (hx : x ∈ besideL w h c) : 0 ≤ x ∧ x < w * h := by
 obtain ⟨q1, q2, q3, q4, q5⟩ := f.quot
 have hc := f.c2; have hw := f.w1
 unfold besideL at hx
 simp only [List.mem_append] at hx
 have up : c / w > 0 → w ≤ w * (c / w) := fun h => by have := Int.mul_le_mul_of_nonneg_left (show (1 : Int) ≤ c / w by omega) (show 0 ≤ w by omega); rw [Int.mul_one] at this; exact this
 have down : c / w < h - 1 → w * (c / w) + w * 2 ≤ w * h := fun hh => by
  have := Int.mul_le_mul_of_nonneg_left (show c / w + 2 ≤ h by omega) (show 0 ≤ w by omega)
  rw [Int.mul_add] at this; exact this
 have right : w * (c / w) + w ≤ w * h := by
  have := Int.mul_le_mul_of_nonneg_left (show c / w + 1 ≤ h by omega) (show 0 ≤ w by omega)
  rw [Int.mul_add, Int.mul_one] at this; exact this
 have hm0 : 0 ≤ w * (c / w) := Int.mul_nonneg (by omega) q1
 generalize w * (c / w) = m at *
 generalize w * h = n at *
 generalize c % w = r at *
 generalize c / w = q at *
 rcases hx with hx | hx | hx | hx <;> split at hx <;> simp only [List.mem_singleton, List.not_mem_nil] at hx
 ·rename_i g; have := up g; omega
 ·omega
 ·omega
 ·rename_i g; have := down g; omega
def nearL (w h : Int) (cs : List Int) (c : Int) (loaded : Bool) : List Int := (besideL w h c).filter (fun x => !(rd cs x == 0) && !(loaded && rd cs x == 2))
theorem nearL_le (w h : Int) (cs : List Int) (c : Int) (loaded : Bool) : (nearL w h cs c loaded).length ≤ 4 := Nat.le_trans (List.length_filter_le _ _) (besideL_le w h c)
theorem mem_nearL {w h : Int} {cs : List Int} {c x : Int} {loaded : Bool} : x ∈ nearL w h cs c loaded ↔ x ∈ besideL w h c ∧ rd cs x ≠ 0 ∧ (loaded = true → rd cs x ≠ 2) := by
 unfold nearL
 rw [List.mem_filter]
 cases loaded <;> simp

def kindsOk (cs : List Int) (i : Nat) : Bool := allFrom cs.length i (fun j => inB (cs.getD j 0) 0 4)
def floorOk (w h : Int) (cs : List Int) : Bool := inB w 1 10 && inB h 1 10 && decide ((cs.length : Int) = w * h) && kindsOk cs 0
theorem spec_FloorOk_l0 (w h : Int) (cs : List Int) (hn : cs.length ≤ BIG) : ∀ (d i : Nat), i + d = cs.length → Ev (fun k => spec_FloorOk.l0 k i w h cs) (kindsOk cs i)
 | 0, i, e => Ev.unroll (by
   simp only [spec_FloorOk.l0]
   simp only [if_neg (show ¬ (i : Int) < cs.length by omega)]
   exact Ev.fin (allFrom_end (by omega)).symm)
 | d + 1, i, e => Ev.unroll (by
   have hi : i < cs.length := by omega
   simp only [spec_FloorOk.l0, spec_l1In_f, some_bind]
   simp only [if_pos (show (i : Int) < cs.length by omega), if_pos (show (0 : Int) ≤ i by omega), wrap_succ hi hn, rd, Int.toNat_natCast]
   by_cases h1 : inB (cs.getD i 0) 0 4 = true
   ·simp only [if_pos h1]
    rw [show kindsOk cs i = kindsOk cs (i + 1) from allFrom_yes hi h1]
    exact spec_FloorOk_l0 w h cs hn d (i + 1) (by omega)
   ·simp only [if_neg h1]
    exact Ev.fin (allFrom_no hi (by simpa using h1)).symm)
theorem impl_FloorOk_l0 (cs : List Int) (hn : cs.length ≤ BIG) : ∀ (d i : Nat), i + d = cs.length → Ev (fun k => impl_FloorOk.l0 k cs cs.length i) (kindsOk cs i)
 | 0, i, e => Ev.unroll (by
   simp only [impl_FloorOk.l0]
   simp only [if_neg (show ¬ (i : Int) < cs.length by omega)]
   exact Ev.fin (allFrom_end (by omega)).symm)
 | d + 1, i, e => Ev.unroll (by
   have hi : i < cs.length := by omega
   simp only [impl_FloorOk.l0, impl_in_f, some_bind]
   simp only [if_pos (show (i : Int) < cs.length by omega), if_pos (show (0 : Int) ≤ i by omega), wrap_succ hi hn, rd, Int.toNat_natCast]
   by_cases h1 : inB (cs.getD i 0) 0 4 = true
   ·simp only [if_pos h1]
    rw [show kindsOk cs i = kindsOk cs (i + 1) from allFrom_yes hi h1]
    exact impl_FloorOk_l0 cs hn d (i + 1) (by omega)
   ·simp only [if_neg h1]
    exact Ev.fin (allFrom_no hi (by simpa using h1)).symm)
theorem inB_mul {w h : Int} (h1 : inB w 1 10 = true) (h2 : inB h 1 10 = true) : wrap64 (w * h) = w * h ∧ 1 ≤ w * h ∧ w * h ≤ 100 := by
 obtain ⟨a, b⟩ := inB_iff.1 h1
 obtain ⟨c, d⟩ := inB_iff.1 h2
 have e1 : 1 * 1 ≤ w * h := Int.mul_le_mul a c (by omega) (by omega)
 have e2 : w * h ≤ 10 * 10 := Int.mul_le_mul b d (by omega) (by omega)
 exact ⟨wrap_id (by omega) (by omega), by omega, by omega⟩
theorem spec_FloorOk_f (w h : Int) (cs : List Int) (hn : cs.length ≤ BIG) : Ev (fun k => spec_FloorOk.f k w h cs) (floorOk w h cs) := by
 unfold spec_FloorOk.f floorOk
 simp only [spec_l1In_f, some_bind]
 by_cases h1 : inB w 1 10 = true
 ·simp only [if_pos h1]
  by_cases h2 : inB h 1 10 = true
  ·simp only [if_pos h2, (inB_mul h1 h2).1]
   refine Ev.unroll ?_
   simp only [spec_FloorOk.j0]
   by_cases h3 : (cs.length : Int) = w * h
   ·simp only [h3, bne_self_eq_false, Bool.false_eq_true, if_false, h1, h2, Bool.true_and, decide_true]
    exact spec_FloorOk_l0 w h cs hn cs.length 0 (by omega)
   ·simp only [if_pos (show ((cs.length : Int) != w * h) = true by simpa using h3)]
    exact Ev.fin (by simp [h3])
  ·simp only [if_neg h2]
   refine Ev.unroll ?_
   simp only [spec_FloorOk.j0, if_true]
   exact Ev.fin (by rw [Bool.not_eq_true] at h2; rw [h2]; simp)
 ·simp only [if_neg h1]
  refine Ev.unroll ?_
  simp only [spec_FloorOk.j0, if_true]
  exact Ev.fin (by rw [Bool.not_eq_true] at h1; rw [h1]; simp)
theorem impl_FloorOk_f (w h : Int) (cs : List Int) (hn : cs.length ≤ BIG) : Ev (fun k => impl_FloorOk.f k w h cs) (floorOk w h cs) := by
 unfold impl_FloorOk.f floorOk
 simp only [impl_in_f, some_bind]
 by_cases h1 : inB w 1 10 = true
 ·simp only [if_pos h1]
  by_cases h2 : inB h 1 10 = true
  ·simp only [if_pos h2, (inB_mul h1 h2).1]
   refine Ev.unroll ?_
   simp only [impl_FloorOk.j0]
   by_cases h3 : (cs.length : Int) = w * h
   ·simp only [h3, bne_self_eq_false, Bool.false_eq_true, if_false, h1, h2, Bool.true_and, decide_true]
    rw [← h3]
    exact impl_FloorOk_l0 cs hn cs.length 0 (by omega)
   ·simp only [if_pos (show ((cs.length : Int) != w * h) = true by simpa using h3)]
    exact Ev.fin (by simp [h3])
  ·simp only [if_neg h2]
   refine Ev.unroll ?_
   simp only [impl_FloorOk.j0, if_true]
   exact Ev.fin (by rw [Bool.not_eq_true] at h2; rw [h2]; simp)
 ·simp only [if_neg h1]
  refine Ev.unroll ?_
  simp only [impl_FloorOk.j0, if_true]
  exact Ev.fin (by rw [Bool.not_eq_true] at h1; rw [h1]; simp)

theorem floorOk_size {w h : Int} {cs : List Int} (h1 : floorOk w h cs = true) : 1 ≤ w ∧ w ≤ 10 ∧ 1 ≤ h ∧ h ≤ 10 ∧ (cs.length : Int) = w * h := by
 unfold floorOk at h1
 simp only [Bool.and_eq_true, inB_iff, decide_eq_true_eq] at h1
 exact ⟨h1.1.1.1.1, h1.1.1.1.2, h1.1.1.2.1, h1.1.1.2.2, h1.1.2⟩
theorem floorOk_area {w h : Int} {cs : List Int} (h1 : floorOk w h cs = true) : cs.length ≤ 100 := by
 obtain ⟨a1, a2, a3, a4, a5⟩ := floorOk_size h1
 have e2 : w * h ≤ 10 * 10 := Int.mul_le_mul a2 a4 (by omega) (by omega)
 omega

structure Drawn (w h : Int) (cs : List Int) : Prop where
 ok : floorOk w h cs = true
 len : 1 ≤ cs.length ∧ cs.length ≤ 42
def drawnTexts : List ByteArray := [(⟨#[99, 46, 46, 46, 46, 46, 10, 46, 112, 112, 46, 112, 46, 10, 46, 112, 112, 46, 112, 46, 10, 46, 46, 46, 46, 46, 115, 10]⟩ : ByteArray), (⟨#[99, 46, 46, 10, 46, 46, 46, 10, 46, 46, 115, 10]⟩ : ByteArray), (⟨#[46, 46, 46, 46, 46, 10, 46, 112, 35, 112, 46, 10, 46, 46, 115, 46, 46, 10, 46, 112, 35, 112, 46, 10, 99, 46, 46, 46, 99, 10]⟩ : ByteArray), (⟨#[46, 46, 46, 35, 46, 46, 46, 10, 46, 46, 46, 46, 46, 46, 46, 10, 46, 46, 46, 35, 46, 46, 46, 10]⟩ : ByteArray), (⟨#[99, 46, 46, 46, 46, 46, 46, 46, 10, 46, 112, 46, 112, 46, 112, 46, 46, 10, 46, 46, 46, 46, 46, 46, 46, 115, 10, 46, 112, 46, 112, 46, 112, 46, 46, 10, 99, 46, 46, 46, 46, 46, 46, 115, 10]⟩ : ByteArray), (⟨#[46, 46, 10, 46, 46, 10]⟩ : ByteArray), (⟨#[99, 46, 35, 46, 115, 10, 46, 46, 35, 46, 46, 10]⟩ : ByteArray)]
theorem drawn_pars (s : ByteArray) (hs : s ∈ drawnTexts) :
  ∃ (w h : Int) (cs : List Int), Ev (fun k => spec_ParseFloor.f k s) (w, h, cs, -1) ∧ Drawn w h cs := by
 unfold drawnTexts at hs
 simp only [List.mem_cons, List.not_mem_nil, or_false] at hs
 rcases hs with rfl | rfl | rfl | rfl | rfl | rfl | rfl
 ·exact ⟨6, 4, [4, 1, 1, 1, 1, 1, 1, 2, 2, 1, 2, 1, 1, 2, 2, 1, 2, 1, 1, 1, 1, 1, 1, 3], Ev.of (spec_ParseFloor.mono _) (k := 200) (by decide +kernel), by decide +kernel, by decide⟩
 ·exact ⟨3, 3, [4, 1, 1, 1, 1, 1, 1, 1, 3], Ev.of (spec_ParseFloor.mono _) (k := 200) (by decide +kernel), by decide +kernel, by decide⟩
 ·exact ⟨5, 5, [1, 1, 1, 1, 1, 1, 2, 0, 2, 1, 1, 1, 3, 1, 1, 1, 2, 0, 2, 1, 4, 1, 1, 1, 4], Ev.of (spec_ParseFloor.mono _) (k := 200) (by decide +kernel), by decide +kernel, by decide⟩
 ·exact ⟨7, 3, [1, 1, 1, 0, 1, 1, 1, 1, 1, 1, 1, 1, 1, 1, 1, 1, 1, 0, 1, 1, 1], Ev.of (spec_ParseFloor.mono _) (k := 200) (by decide +kernel), by decide +kernel, by decide⟩
 ·exact ⟨8, 5, [4, 1, 1, 1, 1, 1, 1, 1, 1, 2, 1, 2, 1, 2, 1, 1, 1, 1, 1, 1, 1, 1, 1, 3, 1, 2, 1, 2, 1, 2, 1, 1, 4, 1, 1, 1, 1, 1, 1, 3], Ev.of (spec_ParseFloor.mono _) (k := 200) (by decide +kernel), by decide +kernel, by decide⟩
 ·exact ⟨2, 2, [1, 1, 1, 1], Ev.of (spec_ParseFloor.mono _) (k := 200) (by decide +kernel), by decide +kernel, by decide⟩
 ·exact ⟨5, 2, [4, 1, 0, 1, 3, 1, 1, 0, 1, 1], Ev.of (spec_ParseFloor.mono _) (k := 200) (by decide +kernel), by decide +kernel, by decide⟩
theorem l1Floor_l0_ok (b : List Int) (hb : b.length ≤ 1048576) (w h : Int) (hw : 1 ≤ w ∧ w ≤ 7) (hh : 1 ≤ h ∧ h ≤ 6) (n : Nat) (hn : (n : Int) = w * h) : ∀ (d j : Nat) (i s : Int) (cs : List Int), j + d = n → 0 ≤ i → cs.length = j → (∀ x ∈ cs, 0 ≤ x ∧ x ≤ 4) →
  ∃ (cs' : List Int) (i' s' : Int), Ev (fun k => spec_l1Floor.l0 k j b i s w h cs) (w, h, cs', i', s') ∧ cs'.length = n ∧ (∀ x ∈ cs', 0 ≤ x ∧ x ≤ 4) ∧ 0 ≤ i' := by
 have area : w * h ≤ 7 * 6 := Int.mul_le_mul hw.2 hh.2 (by omega) (by omega)
 have e0 : wrap64 (w * h) = n := by rw [wrap_id (by omega) (by omega)]; omega
 intro d
 induction d with
 | zero =>
  intro j i s cs e hi hl hc
  refine ⟨cs, i, s, Ev.unroll ?_, by omega, hc, hi⟩
  simp only [spec_l1Floor.l0, e0]
  exact Ev.ifn (by omega) (Ev.now _)
 | succ d ih =>
  intro j i s cs e hi hl hc
  obtain ⟨x, i1, s1, e1, hi1, hx⟩ := l1Int_ok b i s [1, 1, 1, 1, 1, 1, 0, 2, 3, 4] hi hb (by decide) (by decide)
  have hx2 : 0 ≤ x ∧ x ≤ 4 := by
   simp only [List.mem_cons, List.not_mem_nil, or_false] at hx
   omega
  obtain ⟨cs', i', s', h1, h2, h3, h4⟩ := ih (j + 1) i1 s1 (cs ++ [x]) (by omega) hi1 (by simp; omega) (fun y hy => by
   rw [List.mem_append, List.mem_singleton] at hy
   rcases hy with hy | hy
   ·exact hc y hy
   ·rw [hy]; exact hx2)
  refine ⟨cs', i', s', Ev.unroll ?_, h2, h3, h4⟩
  simp only [spec_l1Floor.l0, e0, e1, some_bind]
  refine Ev.ifp (by omega) (Ev.ifp (by omega) ?_)
  rw [wrap_sc (by omega)]
  exact h1
theorem drawn_of {w h : Int} {cs : List Int} (hw : 1 ≤ w ∧ w ≤ 7) (hh : 1 ≤ h ∧ h ≤ 6) (hl : (cs.length : Int) = w * h) (hc : ∀ x ∈ cs, 0 ≤ x ∧ x ≤ 4) : Drawn w h cs := by
 have area : w * h ≤ 7 * 6 := Int.mul_le_mul hw.2 hh.2 (by omega) (by omega)
 have area1 : 1 * 1 ≤ w * h := Int.mul_le_mul hw.1 hh.1 (by omega) (by omega)
 refine ⟨?_, by omega, by omega⟩
 unfold floorOk kindsOk
 simp only [Bool.and_eq_true, inB_iff, decide_eq_true_eq, allFrom_iff]
 exact ⟨⟨⟨⟨hw.1, by omega⟩, hh.1, by omega⟩, hl⟩, fun j _ hj => by rw [getD_at hj]; exact hc _ (List.getElem_mem hj)⟩
theorem l1Floor_ok (b : List Int) (i s : Int) (hi : 0 ≤ i) (hb : b.length ≤ 1048576) : ∃ (w h : Int) (cs : List Int) (i' s' : Int), Ev (fun k => spec_l1Floor.f k b i s) (w, h, cs, i', s') ∧ Drawn w h cs ∧ 0 ≤ i' := by
 unfold spec_l1Floor.f
 obtain ⟨x, i1, s1, e1, hi1⟩ := l1Once_ok b i s 3 hi hb
 rw [e1]
 simp only [some_bind]
 cases x with
 | true =>
  obtain ⟨t, i2, s2, e2, hi2, ht⟩ := l1Str_ok b i1 s1 drawnTexts hi1 hb (by decide) (by decide)
  obtain ⟨w, h, cs, hp, hd⟩ := drawn_pars t ht
  refine ⟨w, h, cs, i2, s2, ?_, hd, hi2⟩
  unfold drawnTexts at e2
  rw [e2]
  simp only [if_true, some_bind]
  exact Ev.bind hp (Ev.now _)
 | false =>
  obtain ⟨x, i2, s2, e2, hi2, x0, x1, _⟩ := l1Below_ok b i1 s1 7 hi1 hb
  obtain ⟨y, i3, s3, e3, hi3, y0, y1, _⟩ := l1Below_ok b i2 s2 6 hi2 hb
  have x1 := x1 (by omega)
  have y1 := y1 (by omega)
  have area0 : 0 ≤ (1 + x) * (1 + y) := Int.mul_nonneg (by omega) (by omega)
  obtain ⟨cs, i4, s4, h1, h2, h3, h4⟩ := l1Floor_l0_ok b hb (1 + x) (1 + y) (by omega) (by omega) ((1 + x) * (1 + y)).toNat (by omega) ((1 + x) * (1 + y)).toNat 0 i3 s3 [] (by omega) hi3 rfl (by simp)
  refine ⟨1 + x, 1 + y, cs, i4, s4, ?_, drawn_of (by omega) (by omega) (by omega) h3, h4⟩
  rw [e2]
  simp only [Bool.false_eq_true, if_false, some_bind]
  rw [e3]
  simp only [some_bind]
  rw [wrap_id (x := 1 + x) (by omega) (by omega), wrap_id (x := 1 + y) (by omega) (by omega)]
  exact h1
theorem spec_l1Copy_f (w h : Int) (cs : List Int) (hn : cs.length ≤ 1048576) : spec_l1Copy.f w h cs = some (w, h, cs) := by
 unfold spec_l1Copy.f
 simp (disch := omega) only [List.length_nil, List.nil_append, ↓if_pos, ↓if_neg, if_pos, if_neg, decide_eq_true_eq, ↓reduceIte, ↓wrap_sc, wrap_id, some_bind, Int.toNat_natCast, rd_nat', getD_zero', Bool.not_true, Bool.not_false, Bool.false_eq_true, decide_true, decide_false]
theorem impl_copyInts_f (cs : List Int) (hn : cs.length ≤ 1048576) : impl_copyInts.f cs = some cs := by
 unfold impl_copyInts.f
 simp (disch := omega) only [List.length_nil, List.nil_append, ↓if_pos, ↓if_neg, if_pos, if_neg, decide_eq_true_eq, ↓reduceIte, ↓wrap_sc, wrap_id, some_bind, Int.toNat_natCast, rd_nat', getD_zero', Bool.not_true, Bool.not_false, Bool.false_eq_true, decide_true, decide_false]
theorem impl_copyFloor_f (w h : Int) (cs : List Int) (hn : cs.length ≤ 1048576) : impl_copyFloor.f w h cs = some (w, h, cs) := by
 unfold impl_copyFloor.f
 simp (disch := omega) only [impl_copyInts_f cs hn, ↓if_pos, ↓if_neg, if_pos, if_neg, decide_eq_true_eq, ↓reduceIte, ↓wrap_sc, wrap_id, some_bind, Int.toNat_natCast, rd_nat', getD_zero', Bool.not_true, Bool.not_false, Bool.false_eq_true, decide_true, decide_false]

def relax (v : Int) : List Int → List Int → List Int → List Int × List Int
 | out, todo, [] => (out, todo)
 | out, todo, c :: l => if rd out c < 0 then relax v (out.set c.toNat v) (todo ++ [c]) l else relax v out todo l
def negs (out : List Int) : Nat := out.countP (fun x => decide (x < 0))
theorem rd_set {xs : List Int} {c : Int} {v : Int} (h0 : 0 ≤ c) (h1 : c < (xs.length : Int)) {i : Int} (hi : 0 ≤ i) : rd (xs.set c.toNat v) i = if i = c then v else rd xs i := by
 unfold rd
 by_cases e : i = c
 ·subst e
  rw [if_pos rfl, getD_at (by rw [List.length_set]; omega), List.getElem_set_self]
 ·rw [if_neg e, List.getD_eq_getElem?_getD, List.getD_eq_getElem?_getD, List.getElem?_set_ne (by omega)]
theorem negs_set {xs : List Int} {c : Int} {v : Int} (h1 : c.toNat < xs.length) (hn : rd xs c < 0) (hv : 0 ≤ v) : negs (xs.set c.toNat v) + 1 = negs xs := by
 unfold negs
 rw [List.countP_set h1]
 have e : xs[c.toNat] < 0 := by unfold rd at hn; rwa [getD_at h1] at hn
 have hp : 0 < xs.countP (fun x => decide (x < 0)) := List.countP_pos_iff.2 ⟨xs[c.toNat], List.getElem_mem h1, by simpa using e⟩
 simp only [decide_eq_true_eq, if_pos e, if_neg (show ¬ v < 0 by omega)]
 omega
structure Relaxed (v : Int) (out todo0 l out' todo' : List Int) : Prop where
 len : out'.length = out.length
 val : ∀ c : Int, 0 ≤ c → rd out' c = if rd out c < 0 ∧ c ∈ l then v else rd out c
 todo : ∃ new, todo' = todo0 ++ new ∧ ∀ c, c ∈ new ↔ c ∈ l ∧ rd out c < 0
 size : negs out' + todo'.length = negs out + todo0.length
theorem relax_spec (v : Int) (hv : 0 ≤ v) : ∀ (l out todo : List Int), (∀ c ∈ l, 0 ≤ c ∧ c < (out.length : Int)) → Relaxed v out todo l (relax v out todo l).1 (relax v out todo l).2
 | [], out, todo, _ => ⟨rfl, fun c _ => by simp [relax], ⟨[], by simp [relax]⟩, rfl⟩
 | c :: l, out, todo, h => by
  have hc := h c (by simp)
  unfold relax
  by_cases h1 : rd out c < 0
  ·rw [if_pos h1]
   have ih := relax_spec v hv l (out.set c.toNat v) (todo ++ [c]) (fun x hx => by rw [List.length_set]; exact h x (by simp [hx]))
   obtain ⟨new, e1, e2⟩ := ih.todo
   refine ⟨by rw [ih.len, List.length_set], fun x hx => ?_, ⟨c :: new, by rw [e1]; simp, fun x => ?_⟩, ?_⟩
   ·rw [ih.val x hx, rd_set hc.1 hc.2 hx]
    by_cases e : x = c
    ·subst e; simp [h1, show ¬ v < 0 by omega]
    ·simp [e]
   ·rw [List.mem_cons, e2]
    by_cases hx : x = c
    ·subst hx; simp [h1]
    ·by_cases hm : x ∈ l
     ·have hx0 := h x (by simp [hm])
      rw [rd_set hc.1 hc.2 hx0.1, if_neg hx]; simp [hx, hm]
     ·simp [hx, hm]
   ·have h2 := ih.size
    have h3 := negs_set (xs := out) (c := c) (v := v) (by omega) h1 hv
    simp only [List.length_append, List.length_cons, List.length_nil] at h2
    omega
  ·rw [if_neg h1]
   have ih := relax_spec v hv l out todo (fun x hx => h x (by simp [hx]))
   obtain ⟨new, e1, e2⟩ := ih.todo
   refine ⟨ih.len, fun x hx => ?_, ⟨new, e1, fun x => ?_⟩, ih.size⟩
   ·rw [ih.val x hx]
    by_cases e : x = c
    ·subst e; simp [h1]
    ·simp [e]
   ·rw [e2]
    by_cases hx : x = c
    ·subst hx; simp [h1]
    ·simp [hx]
def bfs (nb : Int → List Int) (go : Int → Bool) : Nat → List Int → List Int → List Int
 | 0, out, _ => out
 | _ + 1, out, [] => out
 | k + 1, out, n :: t => if go n = true then bfs nb go k (relax (rd out n + 1) out t (nb n)).1 (relax (rd out n + 1) out t (nb n)).2 else bfs nb go k out t
structure BInv (nb : Int → List Int) (go : Int → Bool) (dst : Int) (n : Nat) (m : Int) (out todo : List Int) : Prop where
 len : out.length = n
 m0 : 0 ≤ m
 low : ∀ c : Int, 0 ≤ c → c < n → -1 ≤ rd out c
 zero : rd out dst = 0
 only : ∀ c : Int, 0 ≤ c → c < n → rd out c = 0 → c = dst
 mem : ∀ c ∈ todo, 0 ≤ c ∧ c < (n : Int) ∧ m ≤ rd out c
 srt : todo.Pairwise (fun a b => rd out a ≤ rd out b)
 top : ∀ c : Int, 0 ≤ c → c < n → rd out c ≤ m + 1
 done : ∀ c : Int, 0 ≤ c → c < n → 0 ≤ rd out c → c ∉ todo → rd out c ≤ m ∧ (go c = true → ∀ v ∈ nb c, 0 ≤ rd out v ∧ rd out v ≤ rd out c + 1)
 pred : ∀ v : Int, 0 ≤ v → v < n → 0 < rd out v → ∃ u : Int, 0 ≤ u ∧ u < n ∧ go u = true ∧ v ∈ nb u ∧ rd out u = rd out v - 1
structure Bfs (nb : Int → List Int) (go : Int → Bool) (dst : Int) (n : Nat) (out : List Int) : Prop where
 len : out.length = n
 low : ∀ c : Int, 0 ≤ c → c < n → -1 ≤ rd out c
 zero : rd out dst = 0
 only : ∀ c : Int, 0 ≤ c → c < n → rd out c = 0 → c = dst
 next : ∀ c : Int, 0 ≤ c → c < n → 0 ≤ rd out c → go c = true → ∀ v ∈ nb c, 0 ≤ rd out v ∧ rd out v ≤ rd out c + 1
 pred : ∀ v : Int, 0 ≤ v → v < n → 0 < rd out v → ∃ u : Int, 0 ≤ u ∧ u < n ∧ go u = true ∧ v ∈ nb u ∧ rd out u = rd out v - 1
theorem bfs_inv {nb : Int → List Int} {go : Int → Bool} {dst : Int} {n : Nat} (hnb : ∀ c : Int, 0 ≤ c → c < n → ∀ v ∈ nb c, 0 ≤ v ∧ v < (n : Int)) (ht : 0 ≤ dst ∧ dst < (n : Int)) :
  ∀ (k : Nat) (m : Int) (out todo : List Int), negs out + todo.length < k → BInv nb go dst n m out todo → Bfs nb go dst n (bfs nb go k out todo)
 | 0, _, _, _, h, _ => by omega
 | k + 1, m, out, [], _, i => ⟨i.len, i.low, i.zero, i.only, fun c h0 h1 h2 h3 => (i.done c h0 h1 h2 (by simp)).2 h3, i.pred⟩
 | k + 1, m, out, x :: t, h, i => by
  obtain ⟨x0, x1, xm⟩ := i.mem x (by simp)
  have hs := List.pairwise_cons.1 i.srt
  have mm : ∀ c : Int, 0 ≤ c → c < n → 0 ≤ rd out c → c ∉ x :: t → rd out c ≤ rd out x := fun c h0 h1 h2 h3 => by have := (i.done c h0 h1 h2 h3).1; omega
  have hm := i.m0
  unfold bfs
  by_cases hg : go x = true
  ·rw [if_pos hg]
   have r := relax_spec (rd out x + 1) (by omega) (nb x) out t (fun c hc => by rw [i.len]; exact hnb x x0 x1 c hc)
   generalize (relax (rd out x + 1) out t (nb x)).1 = o' at r ⊢
   generalize (relax (rd out x + 1) out t (nb x)).2 = t' at r ⊢
   obtain ⟨new, e1, e2⟩ := r.todo
   have hv := r.val
   have hnew : ∀ c ∈ new, 0 ≤ c ∧ c < (n : Int) ∧ rd o' c = rd out x + 1 := fun c hc => by
    have h3 := (e2 c).1 hc
    have h4 := hnb x x0 x1 c h3.1
    exact ⟨h4.1, h4.2, by rw [hv c h4.1, if_pos ⟨h3.2, h3.1⟩]⟩
   have hkeep : ∀ c : Int, 0 ≤ c → 0 ≤ rd out c → rd o' c = rd out c := fun c h0 h1 => by rw [hv c h0, if_neg (by omega)]
   have hmt : ∀ c ∈ t, 0 ≤ c ∧ c < (n : Int) ∧ rd out x ≤ rd out c ∧ rd o' c = rd out c := fun c hc => by
    have h3 := i.mem c (by simp [hc])
    exact ⟨h3.1, h3.2.1, hs.1 c hc, hkeep c h3.1 (by omega)⟩
   have hx' := hkeep x x0 (by omega)
   refine bfs_inv hnb ht k (rd out x) o' t' ?_ ⟨by rw [r.len, i.len], by omega, ?_, ?_, ?_, ?_, ?_, ?_, ?_, ?_⟩
   ·have := r.size
    simp only [List.length_cons] at h
    omega
   ·intro c h0 h1
    have := i.low c h0 h1
    rw [hv c h0]; split <;> omega
   ·rw [hkeep dst ht.1 (by rw [i.zero]; omega), i.zero]
   ·intro c h0 h1 h2
    rw [hv c h0] at h2
    split at h2
    ·omega
    ·exact i.only c h0 h1 h2
   ·intro c hc
    rw [e1, List.mem_append] at hc
    rcases hc with hc | hc
    ·have h3 := hmt c hc; exact ⟨h3.1, h3.2.1, by omega⟩
    ·have h3 := hnew c hc; exact ⟨h3.1, h3.2.1, by omega⟩
   ·rw [e1, List.pairwise_append]
    refine ⟨?_, ?_, ?_⟩
    ·refine List.Pairwise.imp_of_mem ?_ hs.2
     intro a b ha hb hab
     rw [(hmt a ha).2.2.2, (hmt b hb).2.2.2]; exact hab
    ·refine List.Pairwise.imp_of_mem (R := fun _ _ => True) ?_ (List.pairwise_of_forall (fun _ _ => trivial))
     intro a b ha hb _
     rw [(hnew a ha).2.2, (hnew b hb).2.2]; omega
    ·intro a ha b hb
     have h3 := hmt a ha
     have h4 := i.top a h3.1 h3.2.1
     rw [h3.2.2.2, (hnew b hb).2.2]; omega
   ·intro c h0 h1
    rw [hv c h0]
    split
    ·omega
    ·have := i.top c h0 h1; omega
   ·intro c h0 h1 h2 h3
    rw [e1, List.mem_append] at h3
    by_cases hcx : c = x
    ·subst hcx
     rw [hx']
     refine ⟨by omega, fun _ v hvn => ?_⟩
     have hr := hnb c h0 h1 v hvn
     rw [hv v hr.1]
     have h5 := i.top v hr.1 hr.2
     split
     ·omega
     ·rename_i hneg
      have : ¬ rd out v < 0 := fun hh => hneg ⟨hh, hvn⟩
      omega
    ·by_cases hneg : rd out c < 0
     ·by_cases hcn : c ∈ nb x
      ·exact absurd (Or.inr ((e2 c).2 ⟨hcn, hneg⟩)) h3
      ·rw [hv c h0, if_neg (fun hh => hcn hh.2)] at h2; omega
     ·have hct : c ∉ x :: t := by
       intro hh
       rcases List.mem_cons.1 hh with hh | hh
       ·exact hcx hh
       ·exact h3 (Or.inl hh)
      have hd := i.done c h0 h1 (by omega) hct
      rw [hkeep c h0 (by omega)]
      refine ⟨by omega, fun hgo v hvn => ?_⟩
      have h6 := hd.2 hgo v hvn
      have hr := hnb c h0 h1 v hvn
      rw [hkeep v hr.1 h6.1]; exact h6
   ·intro v h0 h1 h2
    rw [hv v h0] at h2 ⊢
    split at h2
    ·rename_i hh
     exact ⟨x, x0, x1, hg, hh.2, by rw [hx', if_pos hh]; omega⟩
    ·rename_i hh
     obtain ⟨u, u0, u1, ug, uv, ud⟩ := i.pred v h0 h1 h2
     exact ⟨u, u0, u1, ug, uv, by rw [if_neg hh, hkeep u u0 (by omega)]; exact ud⟩
  ·rw [if_neg hg]
   refine bfs_inv hnb ht k (rd out x) out t ?_ ⟨i.len, by omega, i.low, i.zero, i.only, ?_, hs.2, ?_, ?_, i.pred⟩
   ·simp only [List.length_cons] at h; omega
   ·intro c hc
    have h3 := i.mem c (by simp [hc]); exact ⟨h3.1, h3.2.1, hs.1 c hc⟩
   ·intro c h0 h1
    have := i.top c h0 h1; omega
   ·intro c h0 h1 h2 h3
    by_cases hcx : c = x
    ·subst hcx
     exact ⟨by omega, fun hh => absurd hh hg⟩
    ·have hd := i.done c h0 h1 h2 (by simp [hcx, h3])
     exact ⟨by omega, hd.2⟩
def bfsFrom (nb : Int → List Int) (go : Int → Bool) (n : Nat) (dst : Int) : List Int := bfs nb go (n + 2) ((List.replicate n (-1 : Int)).set dst.toNat 0) [dst]
theorem rd_replicate {n : Nat} {v c : Int} (h0 : 0 ≤ c) (h1 : c < n) : rd (List.replicate n v) c = v := by
 unfold rd; rw [getD_at (by rw [List.length_replicate]; omega)]; simp
theorem negs_le (l : List Int) : negs l ≤ l.length := List.countP_le_length
theorem bfs_start {nb : Int → List Int} {go : Int → Bool} {dst : Int} {n : Nat} (ht : 0 ≤ dst ∧ dst < (n : Int)) : BInv nb go dst n 0 ((List.replicate n (-1 : Int)).set dst.toNat 0) [dst] := by
 have hv : ∀ c : Int, 0 ≤ c → c < n → rd ((List.replicate n (-1 : Int)).set dst.toNat 0) c = if c = dst then 0 else -1 := fun c h0 h1 => by
  rw [rd_set ht.1 (by rw [List.length_replicate]; exact ht.2) h0, rd_replicate h0 h1]
 refine ⟨by simp, by omega, ?_, ?_, ?_, ?_, by simp, ?_, ?_, ?_⟩
 ·intro c h0 h1; rw [hv c h0 h1]; split <;> omega
 ·rw [hv dst ht.1 ht.2, if_pos rfl]
 ·intro c h0 h1 h2; rw [hv c h0 h1] at h2; split at h2; assumption; omega
 ·intro c hc; obtain rfl := List.mem_singleton.1 hc; exact ⟨ht.1, ht.2, by rw [hv c ht.1 ht.2, if_pos rfl]; omega⟩
 ·intro c h0 h1; rw [hv c h0 h1]; split <;> omega
 ·intro c h0 h1 h2 h3; rw [hv c h0 h1, if_neg (by simpa using h3)] at h2; omega
 ·intro c h0 h1 h2; rw [hv c h0 h1] at h2; split at h2 <;> omega
theorem bfs_from {nb : Int → List Int} {go : Int → Bool} {dst : Int} {n : Nat} (hnb : ∀ c : Int, 0 ≤ c → c < n → ∀ v ∈ nb c, 0 ≤ v ∧ v < (n : Int)) (ht : 0 ≤ dst ∧ dst < (n : Int)) : Bfs nb go dst n (bfsFrom nb go n dst) := by
 refine bfs_inv hnb ht (n + 2) 0 _ _ ?_ (bfs_start ht)
 have := negs_le ((List.replicate n (-1 : Int)).set dst.toNat 0)
 simp only [List.length_set, List.length_replicate] at this
 simp only [List.length_cons, List.length_nil]
 omega

def goF (cs : List Int) (dst : Int) (loaded : Bool) (n : Int) : Bool := decide (n = dst) || !(loaded && (rd cs n == 2))
def nbF (w h : Int) (cs : List Int) (c : Int) : List Int := nearL w h cs c false
def fieldL (w h : Int) (cs : List Int) (dst : Int) (loaded : Bool) : List Int := bfsFrom (nbF w h cs) (goF cs dst loaded) cs.length dst
theorem relax_app (v : Int) : ∀ (l out a t : List Int), relax v out (a ++ t) l = ((relax v out t l).1, a ++ (relax v out t l).2)
 | [], out, a, t => rfl
 | c :: l, out, a, t => by
  unfold relax
  split
  ·rw [List.append_assoc]; exact relax_app v l _ a _
  ·exact relax_app v l out a t
theorem nbF_in {w h : Int} {cs : List Int} (hf : floorOk w h cs = true) : ∀ c : Int, 0 ≤ c → c < (cs.length : Int) → ∀ v ∈ nbF w h cs c, 0 ≤ v ∧ v < (cs.length : Int) := by
 intro c h0 h1 v hv
 obtain ⟨a1, a2, a3, a4, a5⟩ := floorOk_size hf
 have f : Fits w h c := ⟨a1, a2, a3, a4, h0, by omega⟩
 rw [a5]
 exact mem_besideL f (mem_nearL.1 hv).1
theorem fitsAt {w h : Int} {cs : List Int} (hf : floorOk w h cs = true) {c : Int} (h0 : 0 ≤ c) (h1 : c < (cs.length : Int)) : Fits w h c ∧ (cs.length : Int) = w * h := by
 obtain ⟨a1, a2, a3, a4, a5⟩ := floorOk_size hf
 exact ⟨⟨a1, a2, a3, a4, h0, by omega⟩, a5⟩
structure Round (n : Nat) (fuel : Nat) (out todo : List Int) : Prop where
 len : out.length = n
 mem : ∀ c ∈ todo, 0 ≤ c ∧ c < (n : Int) ∧ 0 ≤ rd out c
 top : ∀ c : Int, 0 ≤ c → c < n → rd out c ≤ 1000 - (fuel : Int)
 size : negs out + todo.length < fuel
theorem Round.next {n fuel : Nat} {out t : List Int} {x : Int} {l : List Int} (r : Round n (fuel + 1) out (x :: t)) (hl : ∀ c ∈ l, 0 ≤ c ∧ c < (n : Int)) : Round n fuel (relax (rd out x + 1) out t l).1 (relax (rd out x + 1) out t l).2 := by
 have hx := r.mem x (by simp)
 have hx2 := r.top x hx.1 hx.2.1
 have s := relax_spec (rd out x + 1) (by omega) l out t (fun c hc => by rw [r.len]; exact hl c hc)
 obtain ⟨new, e1, e2⟩ := s.todo
 refine ⟨by rw [s.len, r.len], fun c hc => ?_, fun c h0 h1 => ?_, ?_⟩
 ·rw [e1, List.mem_append] at hc
  rcases hc with hc | hc
  ·have := r.mem c (by simp [hc])
   refine ⟨this.1, this.2.1, ?_⟩
   rw [s.val c this.1]; split <;> omega
  ·have h3 := (e2 c).1 hc
   have h4 := hl c h3.1
   refine ⟨h4.1, h4.2, ?_⟩
   rw [s.val c h4.1, if_pos ⟨h3.2, h3.1⟩]; omega
 ·have := r.top c h0 h1
  rw [s.val c h0]; split <;> omega
 ·have := s.size
  have h2 := r.size
  simp only [List.length_cons] at h2
  omega
theorem Round.skip {n fuel : Nat} {out t : List Int} {x : Int} (r : Round n (fuel + 1) out (x :: t)) : Round n fuel out t := by
 refine ⟨r.len, fun c hc => r.mem c (by simp [hc]), fun c h0 h1 => ?_, ?_⟩
 ·have := r.top c h0 h1; omega
 ·have h2 := r.size
  simp only [List.length_cons] at h2
  omega
theorem round_start {n : Nat} {dst : Int} (hn : n ≤ 100) (h0 : 0 ≤ dst) (h1 : dst < n) : Round n (n + 2) ((List.replicate n (-1 : Int)).set dst.toNat 0) [dst] := by
 have b := bfs_start (nb := fun _ => []) (go := fun _ => true) (dst := dst) (n := n) ⟨h0, h1⟩
 refine ⟨b.len, fun c hc => ?_, fun c c0 c1 => ?_, ?_⟩
 ·have := b.mem c hc; exact ⟨this.1, this.2.1, by omega⟩
 ·have := b.top c c0 c1; omega
 ·have := negs_le ((List.replicate n (-1 : Int)).set dst.toNat 0)
  simp only [List.length_set, List.length_replicate] at this
  simp only [List.length_cons, List.length_nil]
  omega

theorem besideL_iff {w h c x : Int} : x ∈ besideL w h c ↔ (x = c - w ∧ 0 < c / w) ∨ (x = c - 1 ∧ 0 < c % w) ∨ (x = c + 1 ∧ c % w < w - 1) ∨ (x = c + w ∧ c / w < h - 1) := by
 unfold besideL
 simp only [List.mem_append]
 constructor
 ·rintro (hx | hx | hx | hx) <;> split at hx <;> simp only [List.mem_singleton, List.not_mem_nil] at hx <;> simp_all
 ·rintro (⟨rfl, hx⟩ | ⟨rfl, hx⟩ | ⟨rfl, hx⟩ | ⟨rfl, hx⟩)
  ·exact Or.inl (by rw [if_pos hx]; simp)
  ·exact Or.inr (Or.inl (by rw [if_pos hx]; simp))
  ·exact Or.inr (Or.inr (Or.inl (by rw [if_pos hx]; simp)))
  ·exact Or.inr (Or.inr (Or.inr (by rw [if_pos hx]; simp)))
theorem Fits.of_mem {w h c x : Int} (f : Fits w h c) (hx : x ∈ besideL w h c) : Fits w h x :=
 ⟨f.w1, f.w2, f.h1, f.h2, (mem_besideL f hx).1, (mem_besideL f hx).2⟩
theorem besideL_sym {w h c x : Int} (f : Fits w h c) (hx : x ∈ besideL w h c) : c ∈ besideL w h x := by
 have f' := f.of_mem hx
 obtain ⟨q1, q2, q3, q4, q5⟩ := f.quot
 have hw := f.w1
 rw [besideL_iff] at hx ⊢
 have u : ∀ q r : Int, r + w * q = x → 0 ≤ r → r < w → x / w = q ∧ x % w = r := fun q r h1 h2 h3 => (Int.ediv_emod_unique (by omega)).2 ⟨h1, h2, h3⟩
 rcases hx with ⟨e, hx⟩ | ⟨e, hx⟩ | ⟨e, hx⟩ | ⟨e, hx⟩
 ·have := u (c / w - 1) (c % w) (by rw [Int.mul_sub, Int.mul_one]; omega) q4 q5
  exact Or.inr (Or.inr (Or.inr ⟨by omega, by omega⟩))
 ·have := u (c / w) (c % w - 1) (by omega) (by omega) (by omega)
  exact Or.inr (Or.inr (Or.inl ⟨by omega, by omega⟩))
 ·have := u (c / w) (c % w + 1) (by omega) (by omega) (by omega)
  exact Or.inr (Or.inl ⟨by omega, by omega⟩)
 ·have := u (c / w + 1) (c % w) (by rw [Int.mul_add, Int.mul_one]; omega) q4 q5
  exact Or.inl ⟨by omega, by omega⟩
theorem not_mem_self {w h c : Int} (f : Fits w h c) : c ∉ besideL w h c := by
 intro hx
 rw [besideL_iff] at hx
 have := f.w1
 omega

inductive Walk (nb : Int → List Int) (go : Int → Bool) (a : Int) : Nat → Int → Prop
 | nil : Walk nb go a 0 a
 | snoc {k : Nat} {b c : Int} (w : Walk nb go a k b) (g : go b = true) (h : c ∈ nb b) : Walk nb go a (k + 1) c
theorem Walk.cons {nb : Int → List Int} {go : Int → Bool} {a b : Int} (g : go a = true) (h : b ∈ nb a) : ∀ {k : Nat} {c : Int}, Walk nb go b k c → Walk nb go a (k + 1) c
 | _, _, .nil => .snoc .nil g h
 | _, _, .snoc w g' h' => .snoc (Walk.cons g h w) g' h'
theorem Walk.trans {nb : Int → List Int} {go : Int → Bool} {k : Nat} {a b : Int} (w : Walk nb go a k b) : ∀ {j : Nat} {c : Int}, Walk nb go b j c → Walk nb go a (k + j) c
 | _, _, .nil => w
 | _, _, .snoc w' g' h' => .snoc (Walk.trans w w') g' h'
theorem Walk.mono {nb nb' : Int → List Int} {go go' : Int → Bool} (h : ∀ a b : Int, go a = true → b ∈ nb a → go' a = true ∧ b ∈ nb' a) : ∀ {k : Nat} {a c : Int}, Walk nb go a k c → Walk nb' go' a k c
 | _, _, _, .nil => .nil
 | _, _, _, .snoc w g h' => .snoc (Walk.mono h w) (h _ _ g h').1 (h _ _ g h').2
theorem Walk.stay {nb : Int → List Int} {go : Int → Bool} {P : Int → Prop} {a : Int} (ha : P a) (h : ∀ b c : Int, P b → go b = true → c ∈ nb b → P c) : ∀ {k : Nat} {c : Int}, Walk nb go a k c → P c
 | _, _, .nil => ha
 | _, _, .snoc w g h' => h _ _ (Walk.stay ha h w) g h'
def Reach (nb : Int → List Int) (go : Int → Bool) (a b : Int) : Prop := ∃ k, Walk nb go a k b
section
variable {nb : Int → List Int} {go : Int → Bool} {dst : Int} {n : Nat} {d : List Int}
theorem Bfs.walk (B : Bfs nb go dst n d) : ∀ (k : Nat) (c : Int), 0 ≤ c → c < n → rd d c = k → Walk nb go dst k c
 | 0, c, h0, h1, e => by
  have e2 : c = dst := B.only c h0 h1 e
  rw [e2]; exact .nil
 | k + 1, c, h0, h1, e => by
  obtain ⟨u, u0, u1, ug, uv, ue⟩ := B.pred c h0 h1 (by omega)
  exact .snoc (Bfs.walk B k u u0 u1 (by omega)) ug uv
theorem Bfs.least (B : Bfs nb go dst n d) (hnb : ∀ c : Int, 0 ≤ c → c < n → ∀ v ∈ nb c, 0 ≤ v ∧ v < (n : Int)) (ht : 0 ≤ dst ∧ dst < (n : Int)) {k : Nat} {c : Int} (w : Walk nb go dst k c) : 0 ≤ c ∧ c < (n : Int) ∧ 0 ≤ rd d c ∧ rd d c ≤ k := by
 induction w with
 | nil => exact ⟨ht.1, ht.2, by rw [B.zero]; omega, by rw [B.zero]; omega⟩
 | @snoc k b c w g h ih =>
  obtain ⟨i0, i1, i2, i3⟩ := ih
  have h1 := hnb _ i0 i1 _ h
  have h2 := B.next _ i0 i1 i2 g _ h
  exact ⟨h1.1, h1.2, h2.1, by omega⟩
theorem Bfs.reach (B : Bfs nb go dst n d) (hnb : ∀ c : Int, 0 ≤ c → c < n → ∀ v ∈ nb c, 0 ≤ v ∧ v < (n : Int)) (ht : 0 ≤ dst ∧ dst < (n : Int)) {c : Int} (h0 : 0 ≤ c) (h1 : c < n) : 0 ≤ rd d c ↔ Reach nb go dst c := by
 constructor
 ·intro h
  exact ⟨(rd d c).toNat, B.walk _ c h0 h1 (by omega)⟩
 ·rintro ⟨k, w⟩
  exact (B.least hnb ht w).2.2.1
theorem Bfs.below (B : Bfs nb go dst n d) (ht : 0 ≤ dst ∧ dst < (n : Int)) : ∀ c : Int, 0 ≤ c → c < n → rd d c < n := by
 have key : ∀ (k : Nat) (c : Int), 0 ≤ c → c < n → rd d c = k → ∃ f : Nat → Int, ∀ j ≤ k, 0 ≤ f j ∧ f j < n ∧ rd d (f j) = j := by
  intro k
  induction k with
  | zero => intro c h0 h1 e; exact ⟨fun _ => c, fun j hj => ⟨h0, h1, by rw [show j = 0 by omega]; exact e⟩⟩
  | succ k ih =>
   intro c h0 h1 e
   obtain ⟨u, u0, u1, ug, uv, ue⟩ := B.pred c h0 h1 (by omega)
   obtain ⟨f, hf⟩ := ih u u0 u1 (by omega)
   refine ⟨fun j => if j = k + 1 then c else f j, fun j hj => ?_⟩
   by_cases hjk : j = k + 1
   ·subst hjk; simp only [if_true]; exact ⟨h0, h1, e⟩
   ·simp only [if_neg hjk]; exact hf j (by omega)
 intro c h0 h1
 by_cases hd : rd d c < 0
 ·omega
 ·obtain ⟨f, hf⟩ := key (rd d c).toNat c h0 h1 (by omega)
  -- the map j -> f j is one dst one from 0 .. k dst n
  have hnd : ((List.range ((rd d c).toNat + 1)).map fun j => (f j).toNat).Nodup := by
   refine List.pairwise_map.2 (List.Pairwise.imp_of_mem ?_ (List.nodup_range (n := (rd d c).toNat + 1)))
   intro i j hi hj hij e
   rw [List.mem_range] at hi hj
   apply hij
   have hi' := hf i (by omega)
   have hj' := hf j (by omega)
   have : f i = f j := by omega
   rw [this] at hi'
   omega
  have hsub : ((List.range ((rd d c).toNat + 1)).map fun j => (f j).toNat) ⊆ List.range n := by
   intro x hx
   rw [List.mem_map] at hx
   obtain ⟨j, hj, rfl⟩ := hx
   rw [List.mem_range] at hj ⊢
   have := hf j (by omega)
   omega
  have := hnd.length_le_of_subset hsub
  simp only [List.length_map, List.length_range] at this
  omega
end

theorem nbF_no_wall {w h : Int} {cs : List Int} {a b : Int} (h1 : b ∈ nbF w h cs a) : rd cs b ≠ 0 := (mem_nearL.1 h1).2.1
theorem nbF_sym {w h : Int} {cs : List Int} (hf : floorOk w h cs = true) {a b : Int} (h0 : 0 ≤ a) (h1 : a < (cs.length : Int)) (hw : rd cs a ≠ 0) (hb : b ∈ nbF w h cs a) : a ∈ nbF w h cs b := by
 have f := (fitsAt hf h0 h1).1
 have m := mem_nearL.1 hb
 exact mem_nearL.2 ⟨besideL_sym f m.1, hw, fun e => by cases e⟩
theorem field_bfs {w h : Int} {cs : List Int} {dst : Int} (ld : Bool) (hf : floorOk w h cs = true) (h0 : 0 ≤ dst) (h1 : dst < (cs.length : Int)) : Bfs (nbF w h cs) (goF cs dst ld) dst cs.length (fieldL w h cs dst ld) := bfs_from (nbF_in hf) ⟨h0, h1⟩
theorem field_no_wall {w h : Int} {cs : List Int} {dst : Int} {ld : Bool} (hf : floorOk w h cs = true) (h0 : 0 ≤ dst) (h1 : dst < (cs.length : Int)) (hw : rd cs dst ≠ 0) {c : Int} (c0 : 0 ≤ c) (c1 : c < (cs.length : Int)) (hd : 0 ≤ rd (fieldL w h cs dst ld) c) : rd cs c ≠ 0 := by
 have B := field_bfs ld hf h0 h1
 by_cases e : rd (fieldL w h cs dst ld) c = 0
 ·rw [B.only c c0 c1 e]; exact hw
 ·obtain ⟨u, u0, u1, ug, uv, ud⟩ := B.pred c c0 c1 (by omega)
  exact nbF_no_wall uv
theorem count_two {p : Int → Bool} : ∀ {l l' : List Int}, l'.length = l.length → (∀ i : Nat, i < l.length → p (l'.getD i 0) = true → p (l.getD i 0) = true) →
  l'.countP p ≤ l.countP p ∧ (l'.countP p = l.countP p → ∀ i : Nat, i < l.length → p (l.getD i 0) = true → p (l'.getD i 0) = true)
 | [], [], _, _ => ⟨Nat.le_refl _, fun _ i hi => by simp at hi⟩
 | x :: l, y :: l', hl, h => by
  have ih := count_two (p := p) (l := l) (l' := l') (by simpa using hl) (fun i hi hp => by have := h (i + 1) (by simpa using hi) (by simpa using hp); simpa using this)
  have h0 := h 0 (by simp) 
  simp only [List.getD_cons_zero] at h0
  rw [List.countP_cons, List.countP_cons]
  by_cases hx : p x = true <;> by_cases hy : p y = true
  ·simp only [hx, hy, if_true]
   refine ⟨by omega, fun e i hi hp => ?_⟩
   cases i with
   | zero => simpa using hy
   | succ i => simpa using ih.2 (by omega) i (by simpa using hi) (by simpa using hp)
  ·simp only [hx, hy, if_true]
   refine ⟨by simp; omega, fun e => ?_⟩
   simp at e
   omega
  ·exact absurd (h0 hy) hx
  ·simp only [hx, hy]
   refine ⟨by simpa using ih.1, fun e i hi hp => ?_⟩
   cases i with
   | zero => simp at hp; exact absurd hp hx
   | succ i => simpa using ih.2 (by simpa using e) i (by simpa using hi) (by simpa using hp)
def cnt (d : List Int) : Nat := d.countP (fun x => decide (0 ≤ x))
theorem cnt_le (d : List Int) : cnt d ≤ d.length := List.countP_le_length
theorem rd_getD {d : List Int} {i : Nat} : d.getD i 0 = rd d (i : Int) := by unfold rd; rw [Int.toNat_natCast]
theorem cnt_sub {d d' : List Int} (hl : d'.length = d.length) (h : ∀ c : Int, 0 ≤ c → c < d.length → 0 ≤ rd d' c → 0 ≤ rd d c) :
  cnt d' ≤ cnt d ∧ (cnt d' = cnt d → ∀ c : Int, 0 ≤ c → c < d.length → 0 ≤ rd d c → 0 ≤ rd d' c) := by
 have := count_two (p := fun x => decide (0 ≤ x)) hl (fun i hi hp => by
  simp only [decide_eq_true_eq, rd_getD] at hp ⊢
  exact h i (by omega) (by omega) hp)
 refine ⟨this.1, fun e c h0 h1 hc => ?_⟩
 have h2 := this.2 e c.toNat (by omega)
 simp only [decide_eq_true_eq, rd_getD, Int.toNat_of_nonneg h0] at h2
 exact h2 hc
theorem cnt_eq {d d' : List Int} (hl : d'.length = d.length) (h : ∀ c : Int, 0 ≤ c → c < d.length → (0 ≤ rd d' c ↔ 0 ≤ rd d c)) : cnt d' = cnt d :=
 Nat.le_antisymm (cnt_sub hl fun c h0 h1 => (h c h0 h1).1).1 (cnt_sub hl.symm fun c h0 h1 => (h c h0 (by omega)).2).1
theorem cnt_set {d : List Int} {a : Int} (h0 : 0 ≤ a) (h1 : a < d.length) (h : 0 ≤ rd d a) : cnt (d.set a.toNat (-1)) + 1 = cnt d := by
 unfold cnt
 have h2 : a.toNat < d.length := by omega
 rw [List.countP_set h2]
 have e : 0 ≤ d[a.toNat] := by unfold rd at h; rwa [getD_at h2] at h
 have hp : 0 < d.countP (fun x => decide (0 ≤ x)) := List.countP_pos_iff.2 ⟨d[a.toNat], List.getElem_mem h2, by simpa using e⟩
 simp only [decide_eq_true_eq, if_pos e, if_neg (show ¬ (0 : Int) ≤ -1 by omega)]
 omega
theorem cnt_but {d d' : List Int} {a : Int} (hl : d'.length = d.length) (h0 : 0 ≤ a) (h1 : a < d.length) (ha : 0 ≤ rd d a) (h : ∀ c : Int, 0 ≤ c → c < d.length → 0 ≤ rd d' c → 0 ≤ rd d c ∧ c ≠ a) :
  cnt d' + 1 ≤ cnt d ∧ (cnt d' + 1 = cnt d ↔ ∀ c : Int, 0 ≤ c → c < d.length → c ≠ a → 0 ≤ rd d c → 0 ≤ rd d' c) := by
 have hs := cnt_set h0 h1 ha
 have hr : ∀ c : Int, 0 ≤ c → rd (d.set a.toNat (-1)) c = if c = a then -1 else rd d c := fun c hc => rd_set h0 h1 hc
 have h3 := cnt_sub (d := d.set a.toNat (-1)) (d' := d') (by rw [hl, List.length_set]) (fun c c0 c1 c2 => by
  rw [List.length_set] at c1
  have := h c c0 c1 c2
  rw [hr c c0, if_neg this.2]; exact this.1)
 refine ⟨by omega, fun e c c0 c1 ca c2 => h3.2 (by omega) c c0 (by rw [List.length_set]; exact c1) (by rw [hr c c0, if_neg ca]; exact c2), fun hh => ?_⟩
 have : cnt d' = cnt (d.set a.toNat (-1)) := cnt_eq (by rw [hl, List.length_set]) fun c c0 c1 => by
  rw [List.length_set] at c1
  rw [hr c c0]
  by_cases ca : c = a
  ·rw [if_pos ca]
   refine ⟨fun g => absurd ca (h c c0 c1 g).2, fun g => by omega⟩
  ·rw [if_neg ca]
   exact ⟨fun g => (h c c0 c1 g).1, fun g => hh c c0 c1 ca g⟩
 omega
abbrev yes : Int → Bool := fun _ => true
theorem Reach.refl (nb : Int → List Int) (go : Int → Bool) (a : Int) : Reach nb go a a := ⟨0, .nil⟩
theorem Reach.trans {nb : Int → List Int} {go : Int → Bool} {a b c : Int} : Reach nb go a b → Reach nb go b c → Reach nb go a c := fun ⟨_, w⟩ ⟨_, w'⟩ => ⟨_, w.trans w'⟩
theorem Reach.one {nb : Int → List Int} {a b : Int} (h : b ∈ nb a) : Reach nb yes a b := ⟨1, .snoc .nil rfl h⟩
theorem Reach.mono {nb nb' : Int → List Int} {a c : Int} (h : ∀ a b : Int, b ∈ nb a → b ∈ nb' a) : Reach nb yes a c → Reach nb' yes a c := fun ⟨k, w⟩ => ⟨k, Walk.mono (fun a b _ h' => ⟨rfl, h a b h'⟩) w⟩
theorem Reach.stay {nb : Int → List Int} {P : Int → Prop} {a c : Int} (ha : P a) (h : ∀ b c : Int, P b → c ∈ nb b → P c) : Reach nb yes a c → P c := fun ⟨_, w⟩ => Walk.stay ha (fun b c hb _ hc => h b c hb hc) w
theorem spec_l1Beside_f (w h : Int) (cs : List Int) (c : Int) (f : Fits w h c) : Ev (fun k => spec_l1Beside.f k w h cs c) (besideL w h c) := by
  have a := f.area; have w1 := f.w1; have w2 := f.w2; have h1 := f.h1; have h2 := f.h2; have c1 := f.c1; have c2 := f.c2
  unfold spec_l1Beside.f
  simp only [some_bind, if_neg (show ¬ w = 0 by omega), f.tdiv, f.tmod, wrap_id (show -9223372036854775808 ≤ c - w by omega) (by omega), List.length_nil, if_pos (show 0 < 17592186044416 by omega), List.nil_append]
  unfold besideL
  by_cases b1 : c / w > 0 <;> by_cases b2 : c % w > 0 <;> by_cases b3 : c % w < w - 1 <;> by_cases b4 : c / w < h - 1 <;>
    (simp only [b1, if_true, if_false]
     refine Ev.unroll ?_
     simp only [spec_l1Beside.j0, b2, if_true, if_false, List.length_cons, List.length_nil, List.length_append, if_pos (show 0 < 17592186044416 by omega), if_pos (show 0 + 1 < 17592186044416 by omega), wrap_id (show -9223372036854775808 ≤ c - 1 by omega) (by omega)]
     refine Ev.unroll ?_
     simp only [spec_l1Beside.j1, wrap_id (show -9223372036854775808 ≤ w - 1 by omega) (by omega), wrap_id (show -9223372036854775808 ≤ h - 1 by omega) (by omega), wrap_id (show -9223372036854775808 ≤ c + 1 by omega) (by omega), wrap_id (show -9223372036854775808 ≤ c + w by omega) (by omega),
       b3, b4, if_true, if_false, some_bind, List.length_cons, List.length_nil, List.length_append, if_pos (show 0 < 17592186044416 by omega), if_pos (show 0 + 1 < 17592186044416 by omega), if_pos (show 0 + 1 + 1 < 17592186044416 by omega), if_pos (show 0 + 1 + (0 + 1) < 17592186044416 by omega), if_pos (show 0 + 1 + 1 + (0 + 1) < 17592186044416 by omega), if_pos (show 0 + 1 + (0 + 1) + (0 + 1) < 17592186044416 by omega)]
     exact Ev.fin (by simp))
theorem spec_l1Near_l0 (w h : Int) (cs : List Int) (loaded : Bool) (bs : List Int) (hb : bs.length ≤ 4) (hr : ∀ x ∈ bs, 0 ≤ x ∧ x < (cs.length : Int)) : ∀ (d i : Nat) (acc : List Int), i + d = bs.length → acc.length ≤ i →
  Ev (fun k => spec_l1Near.l0 k loaded acc bs i w h cs) (acc ++ (bs.drop i).filter (fun x => !(rd cs x == 0) && !(loaded && rd cs x == 2)))
 | 0, i, acc, e, ha => Ev.unroll (by
   simp only [spec_l1Near.l0]
   simp only [if_neg (show ¬ (i : Int) < bs.length by omega)]
   exact Ev.fin (by rw [drop_end (by omega)]; simp))
 | d + 1, i, acc, e, ha => Ev.unroll (by
   have hi : i < bs.length := by omega
   have hx := hr bs[i] (List.getElem_mem hi)
   simp only [spec_l1Near.l0]
   simp only [if_pos (show (i : Int) < bs.length by omega), if_pos (show (0 : Int) ≤ i by omega), wrap_succ hi (show _ ≤ BIG by unfold BIG; omega), rd_nat hi, if_pos hx.1, if_pos hx.2, if_pos (show acc.length < 17592186044416 by omega)]
   rw [drop_cons hi, List.filter_cons]
   have ih := spec_l1Near_l0 w h cs loaded bs hb hr d (i + 1)
   by_cases h0 : rd cs bs[i] = 0
   ·simp only [if_pos h0]
    rw [if_neg (by rw [h0]; simp)]
    exact ih acc (by omega) (by omega)
   ·simp only [if_neg h0]
    cases loaded with
    | false =>
     simp only [Bool.false_eq_true, if_false]
     rw [if_pos (by simpa using h0)]
     have h9 := ih (acc ++ [bs[i]]) (by omega) (by simp; omega)
     rw [List.append_assoc] at h9
     exact h9
    | true =>
     simp only [if_true]
     by_cases h2 : rd cs bs[i] = 2
     ·simp only [if_pos h2]
      rw [if_neg (by rw [h2]; simp)]
      exact ih acc (by omega) (by omega)
     ·simp only [if_neg h2]
      rw [if_pos (by simp [h0, h2])]
      have h9 := ih (acc ++ [bs[i]]) (by omega) (by simp; omega)
      rw [List.append_assoc] at h9
      exact h9)
theorem spec_l1Near_f (w h : Int) (cs : List Int) (c : Int) (loaded : Bool) (f : Fits w h c) (hl : (cs.length : Int) = w * h) : Ev (fun k => spec_l1Near.f k w h cs c loaded) (nearL w h cs c loaded) := by
 unfold spec_l1Near.f
 refine Ev.bind (spec_l1Beside_f w h cs c f) ?_
 exact spec_l1Near_l0 w h cs loaded _ (besideL_le w h c) (fun x hx => by rw [hl]; exact mem_besideL f hx) (besideL w h c).length 0 [] (by omega) (by simp)

theorem spec_field_inner (w h : Int) (cs : List Int) (dst : Int) (ld : Bool) (bs : List Int) (x v : Int) (i : Nat) (R : List Int) (hb : bs.length ≤ 4) (hv1 : 1 ≤ v) (hv2 : v ≤ 1000) (hi : i ≤ 1000) : ∀ (d j : Nat) (out q : List Int), j + d = bs.length → (∀ c ∈ bs, 0 ≤ c ∧ c < (out.length : Int)) → 0 ≤ x → x < (out.length : Int) → rd out x = v - 1 → q.length + d ≤ 10000 →
  Ev (fun k => spec_l2Field.l1 k dst ld (relax v out q (bs.drop j)).1 (relax v out q (bs.drop j)).2 ((i + 1 : Nat) : Int) w h cs) R → Ev (fun k => spec_l2Field.l2 k dst ld out q i x bs j w h cs) R
 | 0, j, out, q, e, hc, x0, x1, xv, ht, hR => Ev.unroll (by
   simp (disch := omega) only [spec_l2Field.l2, ↓if_pos, ↓if_neg, if_pos, if_neg, decide_eq_true_eq, ↓reduceIte, ↓wrap_sc, wrap_id, some_bind, Int.toNat_natCast, rd_nat', getD_zero', Bool.not_true, Bool.not_false, Bool.false_eq_true, decide_true, decide_false]
   rw [drop_end (by omega)] at hR
   exact hR)
 | d + 1, j, out, q, e, hc, x0, x1, xv, ht, hR => Ev.unroll (by
   have hj : j < bs.length := by omega
   have hcj := hc (bs.getD j 0) (by rw [getD_at hj]; exact List.getElem_mem hj)
   rw [drop_cons hj, show bs[j] = bs.getD j 0 from (getD_at hj).symm] at hR
   simp (disch := omega) only [spec_l2Field.l2, ↓if_pos, ↓if_neg, if_pos, if_neg, decide_eq_true_eq, ↓reduceIte, ↓wrap_sc, wrap_id, some_bind, Int.toNat_natCast, rd_nat', getD_zero', Bool.not_true, Bool.not_false, Bool.false_eq_true, decide_true, decide_false]
   by_cases h1 : rd out (bs.getD j 0) < 0
   ·unfold relax at hR
    rw [if_pos h1] at hR
    simp (disch := omega) only [xv, ↓if_pos, ↓if_neg, if_pos, if_neg, decide_eq_true_eq, ↓reduceIte, ↓wrap_sc, wrap_id, some_bind, Int.toNat_natCast, rd_nat', getD_zero', Bool.not_true, Bool.not_false, Bool.false_eq_true, decide_true, decide_false]
    rw [show v - 1 + 1 = v by omega]
    refine spec_field_inner w h cs dst ld bs x v i R hb hv1 hv2 hi d (j + 1) _ _ (by omega) (fun c h3 => by rw [List.length_set]; exact hc c h3) x0 (by rw [List.length_set]; exact x1) ?_ (by simp; omega) hR
    rw [rd_set hcj.1 hcj.2 x0, if_neg (fun e => by rw [e] at xv; omega), xv]
   ·unfold relax at hR
    rw [if_neg h1] at hR
    simp (disch := omega) only [↓if_pos, ↓if_neg, if_pos, if_neg, decide_eq_true_eq, ↓reduceIte, ↓wrap_sc, wrap_id, some_bind, Int.toNat_natCast, rd_nat', getD_zero', Bool.not_true, Bool.not_false, Bool.false_eq_true, decide_true, decide_false]
    exact spec_field_inner w h cs dst ld bs x v i R hb hv1 hv2 hi d (j + 1) _ _ (by omega) hc x0 x1 xv (by omega) hR)
theorem spec_field_l1 (w h : Int) (cs : List Int) (dst : Int) (ld : Bool) (hf : floorOk w h cs = true) : ∀ (fuel i : Nat) (out q : List Int), i + fuel ≤ 102 → i ≤ q.length → Round cs.length fuel out (q.drop i) → Ev (fun k => spec_l2Field.l1 k dst ld out q i w h cs) (bfs (nbF w h cs) (goF cs dst ld) fuel out (q.drop i))
 | 0, _, _, _, _, _, r => absurd r.size (by omega)
 | fuel + 1, i, out, q, hk, hq, r => Ev.unroll (by
   have hs := r.size
   rw [List.length_drop] at hs
   by_cases hi : i < q.length
   ·rw [drop_cons hi] at r ⊢
    have ex : rd q (i : Int) = q[i] := rd_nat hi
    generalize q[i] = x at r ex ⊢
    obtain ⟨x0, x1, xv⟩ := r.mem x (by simp)
    have hl := r.len
    have xt := r.top x x0 x1
    have hfit := fitsAt hf x0 x1
    simp only [spec_l2Field.l1, ex]
    simp (disch := omega) only [↓if_pos, ↓if_neg, if_pos, if_neg, decide_eq_true_eq, ↓reduceIte, ↓wrap_sc, wrap_id, some_bind, Int.toNat_natCast, rd_nat', getD_zero', Bool.not_true, Bool.not_false, Bool.false_eq_true, decide_true, decide_false]
    have yes : goF cs dst ld x = true → Ev (fun k => spec_l2Field.j2 k dst ld out q i x false w h cs) (bfs (nbF w h cs) (goF cs dst ld) (fuel + 1) out (x :: q.drop (i + 1))) := fun hg => Ev.unroll (by
     simp (disch := omega) only [spec_l2Field.j2, ↓if_pos, ↓if_neg, if_pos, if_neg, decide_eq_true_eq, ↓reduceIte, ↓wrap_sc, wrap_id, some_bind, Int.toNat_natCast, rd_nat', getD_zero', Bool.not_true, Bool.not_false, Bool.false_eq_true, decide_true, decide_false]
     refine Ev.bind (spec_l1Near_f w h cs x false hfit.1 hfit.2) ?_
     unfold bfs
     rw [if_pos hg]
     have rn := r.next (l := nbF w h cs x) (fun c hc => nbF_in hf x x0 x1 c hc)
     have ap := relax_app (rd out x + 1) (nbF w h cs x) out (q.take (i + 1)) (q.drop (i + 1))
     rw [List.take_append_drop] at ap
     have e1 : (relax (rd out x + 1) out q (nbF w h cs x)).1 = (relax (rd out x + 1) out (q.drop (i + 1)) (nbF w h cs x)).1 := by rw [ap]
     have e2 : (relax (rd out x + 1) out q (nbF w h cs x)).2.drop (i + 1) = (relax (rd out x + 1) out (q.drop (i + 1)) (nbF w h cs x)).2 := by
      rw [ap]; simp only
      rw [List.drop_append_of_le_length (by simp; omega), List.drop_of_length_le (by simp; omega), List.nil_append]
     have e3 : i + 1 ≤ (relax (rd out x + 1) out q (nbF w h cs x)).2.length := by
      rw [ap]; simp; omega
     rw [← e1, ← e2] at rn ⊢
     have ih := spec_field_l1 w h cs dst ld hf fuel (i + 1) _ _ (by omega) e3 rn
     exact spec_field_inner w h cs dst ld (nearL w h cs x false) x (rd out x + 1) i _ (nearL_le _ _ _ _ _) (by omega) (by omega) (by omega) (nearL w h cs x false).length 0 out q (by omega) (fun c hc => by rw [hl]; exact nbF_in hf x x0 x1 c hc) x0 (by omega) (by omega) (by have := nearL_le w h cs x false; omega) (by rw [List.drop_zero]; exact ih))
    have no : goF cs dst ld x = false → Ev (fun k => spec_l2Field.j2 k dst ld out q i x true w h cs) (bfs (nbF w h cs) (goF cs dst ld) (fuel + 1) out (x :: q.drop (i + 1))) := fun hg => Ev.unroll (by
     simp (disch := omega) only [spec_l2Field.j2, ↓if_pos, ↓if_neg, if_pos, if_neg, decide_eq_true_eq, ↓reduceIte, ↓wrap_sc, wrap_id, some_bind, Int.toNat_natCast, rd_nat', getD_zero', Bool.not_true, Bool.not_false, Bool.false_eq_true, decide_true, decide_false]
     unfold bfs
     rw [hg]
     exact spec_field_l1 w h cs dst ld hf fuel (i + 1) _ _ (by omega) (by omega) r.skip)
    by_cases hd : x = dst
    ·simp (disch := omega) only [hd, ↓if_pos, ↓if_neg, if_pos, if_neg, decide_eq_true_eq, ↓reduceIte, ↓wrap_sc, wrap_id, some_bind, Int.toNat_natCast, rd_nat', getD_zero', Bool.not_true, Bool.not_false, Bool.false_eq_true, decide_true, decide_false]
     rw [hd] at yes
     exact yes (by unfold goF; simp)
    ·cases ld with
     | false =>
      simp (disch := omega) only [hd, ↓if_pos, ↓if_neg, if_pos, if_neg, decide_eq_true_eq, ↓reduceIte, ↓wrap_sc, wrap_id, some_bind, Int.toNat_natCast, rd_nat', getD_zero', Bool.not_true, Bool.not_false, Bool.false_eq_true, decide_true, decide_false]
      exact yes (by unfold goF; simp)
     | true =>
      simp (disch := omega) only [hd, ↓if_pos, ↓if_neg, if_pos, if_neg, decide_eq_true_eq, ↓reduceIte, ↓wrap_sc, wrap_id, some_bind, Int.toNat_natCast, rd_nat', getD_zero', Bool.not_true, Bool.not_false, Bool.false_eq_true, decide_true, decide_false]
      by_cases h2 : rd cs x = 2
      ·rw [h2]
       exact no (by unfold goF; simp [hd, h2])
      ·rw [show (rd cs x == 2) = false by simpa using h2]
       exact yes (by unfold goF; simp [h2])
   ·rw [drop_end (by omega)]
    simp (disch := omega) only [spec_l2Field.l1, ↓if_pos, ↓if_neg, if_pos, if_neg, decide_eq_true_eq, ↓reduceIte, ↓wrap_sc, wrap_id, some_bind, Int.toNat_natCast, rd_nat', getD_zero', Bool.not_true, Bool.not_false, Bool.false_eq_true, decide_true, decide_false]
    exact Ev.now _)
theorem spec_field_l0 (w h : Int) (cs : List Int) (dst : Int) (ld : Bool) (R : List Int) (hn : cs.length ≤ 100) (h0 : 0 ≤ dst) (h1 : dst < (cs.length : Int)) (hR : Ev (fun k => spec_l2Field.l1 k dst ld ((List.replicate cs.length (-1 : Int)).set dst.toNat 0) [dst] 0 w h cs) R) :
  ∀ (d i : Nat), i + d = cs.length → Ev (fun k => spec_l2Field.l0 k dst ld (List.replicate i (-1)) i w h cs) R
 | 0, i, e => Ev.unroll (by
   obtain rfl : i = cs.length := by omega
   simp (disch := omega) only [spec_l2Field.l0, List.length_replicate, ↓if_pos, ↓if_neg, if_pos, if_neg, decide_eq_true_eq, ↓reduceIte, ↓wrap_sc, wrap_id, some_bind, Int.toNat_natCast, rd_nat', getD_zero', Bool.not_true, Bool.not_false, Bool.false_eq_true, decide_true, decide_false]
   exact hR)
 | d + 1, i, e => Ev.unroll (by
   simp (disch := omega) only [spec_l2Field.l0, List.length_replicate, ↓if_pos, ↓if_neg, if_pos, if_neg, decide_eq_true_eq, ↓reduceIte, ↓wrap_sc, wrap_id, some_bind, Int.toNat_natCast, rd_nat', getD_zero', Bool.not_true, Bool.not_false, Bool.false_eq_true, decide_true, decide_false]
   rw [← List.replicate_succ']
   exact spec_field_l0 w h cs dst ld R hn h0 h1 hR d (i + 1) (by omega))
theorem spec_l2Field_f (w h : Int) (cs : List Int) (dst : Int) (ld : Bool) (hf : floorOk w h cs = true) (h0 : 0 ≤ dst) (h1 : dst < (cs.length : Int)) : Ev (fun k => spec_l2Field.f k w h cs dst ld) (fieldL w h cs dst ld) := by
 have hn := floorOk_area hf
 unfold spec_l2Field.f fieldL bfsFrom
 exact spec_field_l0 w h cs dst ld _ hn h0 h1 (spec_field_l1 w h cs dst ld hf (cs.length + 2) 0 _ [dst] (by omega) (by simp) (round_start hn h0 h1)) cs.length 0 (by omega)

theorem impl_beside_f (w h : Int) (cs : List Int) (c : Int) (f : Fits w h c) : Ev (fun k => impl_beside.f k w h cs c) (besideL w h c) := by
  have a := f.area; have w1 := f.w1; have w2 := f.w2; have h1 := f.h1; have h2 := f.h2; have c1 := f.c1; have c2 := f.c2
  unfold impl_beside.f
  simp only [some_bind, if_neg (show ¬ w = 0 by omega), f.tdiv, f.tmod, wrap_id (show -9223372036854775808 ≤ c - w by omega) (by omega), List.length_nil, if_pos (show 0 < 17592186044416 by omega), List.nil_append]
  unfold besideL
  by_cases b1 : c / w > 0 <;> by_cases b2 : c % w > 0 <;> by_cases b3 : c % w < w - 1 <;> by_cases b4 : c / w < h - 1 <;>
    (simp only [b1, if_true, if_false]
     refine Ev.unroll ?_
     simp only [impl_beside.j0, b2, if_true, if_false, List.length_cons, List.length_nil, List.length_append, if_pos (show 0 < 17592186044416 by omega), if_pos (show 0 + 1 < 17592186044416 by omega), wrap_id (show -9223372036854775808 ≤ c - 1 by omega) (by omega)]
     refine Ev.unroll ?_
     simp only [impl_beside.j1, wrap_id (show -9223372036854775808 ≤ w - 1 by omega) (by omega), wrap_id (show -9223372036854775808 ≤ h - 1 by omega) (by omega), wrap_id (show -9223372036854775808 ≤ c + 1 by omega) (by omega), wrap_id (show -9223372036854775808 ≤ c + w by omega) (by omega),
       b3, b4, if_true, if_false, some_bind, List.length_cons, List.length_nil, List.length_append, if_pos (show 0 < 17592186044416 by omega), if_pos (show 0 + 1 < 17592186044416 by omega), if_pos (show 0 + 1 + 1 < 17592186044416 by omega), if_pos (show 0 + 1 + (0 + 1) < 17592186044416 by omega), if_pos (show 0 + 1 + 1 + (0 + 1) < 17592186044416 by omega), if_pos (show 0 + 1 + (0 + 1) + (0 + 1) < 17592186044416 by omega)]
     exact Ev.fin (by simp))
theorem impl_near_l0 (w h : Int) (cs : List Int) (loaded : Bool) (bs : List Int) (hb : bs.length ≤ 4) (hr : ∀ x ∈ bs, 0 ≤ x ∧ x < (cs.length : Int)) : ∀ (d i : Nat) (acc : List Int), i + d = bs.length → acc.length ≤ i →
  Ev (fun k => impl_near.l0 k loaded acc bs bs.length i w h cs) (acc ++ (bs.drop i).filter (fun x => !(rd cs x == 0) && !(loaded && rd cs x == 2)))
 | 0, i, acc, e, ha => Ev.unroll (by
   simp only [impl_near.l0]
   simp only [if_neg (show ¬ (i : Int) < bs.length by omega)]
   exact Ev.fin (by rw [drop_end (by omega)]; simp))
 | d + 1, i, acc, e, ha => Ev.unroll (by
   have hi : i < bs.length := by omega
   have hx := hr bs[i] (List.getElem_mem hi)
   simp only [impl_near.l0]
   simp only [if_pos (show (i : Int) < bs.length by omega), if_pos (show (0 : Int) ≤ i by omega), wrap_succ hi (show _ ≤ BIG by unfold BIG; omega), rd_nat hi, if_pos hx.1, if_pos hx.2, if_pos (show acc.length < 17592186044416 by omega)]
   rw [drop_cons hi, List.filter_cons]
   have ih := impl_near_l0 w h cs loaded bs hb hr d (i + 1)
   by_cases h0 : rd cs bs[i] = 0
   ·simp only [if_pos h0]
    rw [if_neg (by rw [h0]; simp)]
    exact ih acc (by omega) (by omega)
   ·simp only [if_neg h0]
    cases loaded with
    | false =>
     simp only [Bool.false_eq_true, if_false]
     rw [if_pos (by simpa using h0)]
     have h9 := ih (acc ++ [bs[i]]) (by omega) (by simp; omega)
     rw [List.append_assoc] at h9
     exact h9
    | true =>
     simp only [if_true]
     by_cases h2 : rd cs bs[i] = 2
     ·simp only [if_pos h2]
      rw [if_neg (by rw [h2]; simp)]
      exact ih acc (by omega) (by omega)
     ·simp only [if_neg h2]
      rw [if_pos (by simp [h0, h2])]
      have h9 := ih (acc ++ [bs[i]]) (by omega) (by simp; omega)
      rw [List.append_assoc] at h9
      exact h9)
theorem impl_near_f (w h : Int) (cs : List Int) (c : Int) (loaded : Bool) (f : Fits w h c) (hl : (cs.length : Int) = w * h) : Ev (fun k => impl_near.f k w h cs c loaded) (nearL w h cs c loaded) := by
 unfold impl_near.f
 refine Ev.bind (impl_beside_f w h cs c f) ?_
 exact impl_near_l0 w h cs loaded _ (besideL_le w h c) (fun x hx => by rw [hl]; exact mem_besideL f hx) (besideL w h c).length 0 [] (by omega) (by simp)

theorem impl_field_inner (w h : Int) (cs : List Int) (dst : Int) (ld : Bool) (bs : List Int) (x v : Int) (R : List Int) (hb : bs.length ≤ 4) (hv1 : 1 ≤ v) (hv2 : v ≤ 1000) : ∀ (d j : Nat) (out todo : List Int), j + d = bs.length → (∀ c ∈ bs, 0 ≤ c ∧ c < (out.length : Int)) → 0 ≤ x → x < (out.length : Int) → rd out x = v - 1 → todo.length + d ≤ 1000 →
  Ev (fun k => impl_field.l1 k dst ld (relax v out todo (bs.drop j)).1 (relax v out todo (bs.drop j)).2 w h cs) R → Ev (fun k => impl_field.l2 k dst ld out todo x bs bs.length j w h cs) R
 | 0, j, out, todo, e, hc, x0, x1, xv, ht, hR => Ev.unroll (by
   simp (disch := omega) only [impl_field.l2, ↓if_pos, ↓if_neg, if_pos, if_neg, decide_eq_true_eq, ↓reduceIte, ↓wrap_sc, wrap_id, some_bind, Int.toNat_natCast, rd_nat', getD_zero', Bool.not_true, Bool.not_false, Bool.false_eq_true, decide_true, decide_false]
   rw [drop_end (by omega)] at hR
   exact hR)
 | d + 1, j, out, todo, e, hc, x0, x1, xv, ht, hR => Ev.unroll (by
   have hj : j < bs.length := by omega
   have hcj := hc (bs.getD j 0) (by rw [getD_at hj]; exact List.getElem_mem hj)
   rw [drop_cons hj, show bs[j] = bs.getD j 0 from (getD_at hj).symm] at hR
   simp (disch := omega) only [impl_field.l2, ↓if_pos, ↓if_neg, if_pos, if_neg, decide_eq_true_eq, ↓reduceIte, ↓wrap_sc, wrap_id, some_bind, Int.toNat_natCast, rd_nat', getD_zero', Bool.not_true, Bool.not_false, Bool.false_eq_true, decide_true, decide_false]
   by_cases h1 : rd out (bs.getD j 0) < 0
   ·unfold relax at hR
    rw [if_pos h1] at hR
    simp (disch := omega) only [xv, ↓if_pos, ↓if_neg, if_pos, if_neg, decide_eq_true_eq, ↓reduceIte, ↓wrap_sc, wrap_id, some_bind, Int.toNat_natCast, rd_nat', getD_zero', Bool.not_true, Bool.not_false, Bool.false_eq_true, decide_true, decide_false]
    rw [show v - 1 + 1 = v by omega]
    refine impl_field_inner w h cs dst ld bs x v R hb hv1 hv2 d (j + 1) _ _ (by omega) (fun c h3 => by rw [List.length_set]; exact hc c h3) x0 (by rw [List.length_set]; exact x1) ?_ (by simp; omega) hR
    rw [rd_set hcj.1 hcj.2 x0, if_neg (fun e => by rw [e] at xv; omega), xv]
   ·unfold relax at hR
    rw [if_neg h1] at hR
    simp (disch := omega) only [↓if_pos, ↓if_neg, if_pos, if_neg, decide_eq_true_eq, ↓reduceIte, ↓wrap_sc, wrap_id, some_bind, Int.toNat_natCast, rd_nat', getD_zero', Bool.not_true, Bool.not_false, Bool.false_eq_true, decide_true, decide_false]
    exact impl_field_inner w h cs dst ld bs x v R hb hv1 hv2 d (j + 1) _ _ (by omega) hc x0 x1 xv (by omega) hR)
theorem impl_field_l1 (w h : Int) (cs : List Int) (dst : Int) (ld : Bool) (hf : floorOk w h cs = true) : ∀ (fuel : Nat) (out todo : List Int), fuel ≤ 102 → Round cs.length fuel out todo → Ev (fun k => impl_field.l1 k dst ld out todo w h cs) (bfs (nbF w h cs) (goF cs dst ld) fuel out todo)
 | 0, _, _, _, r => absurd r.size (by omega)
 | fuel + 1, out, [], hk, r => Ev.unroll (by
   simp (disch := omega) only [impl_field.l1, List.length_nil, ↓if_pos, ↓if_neg, if_pos, if_neg, decide_eq_true_eq, ↓reduceIte, ↓wrap_sc, wrap_id, some_bind, Int.toNat_natCast, rd_nat', getD_zero', Bool.not_true, Bool.not_false, Bool.false_eq_true, decide_true, decide_false]
   exact Ev.now _)
 | fuel + 1, out, x :: t, hk, r => Ev.unroll (by
   obtain ⟨x0, x1, xv⟩ := r.mem x (by simp)
   have hl := r.len
   have ht := r.size
   have xt := r.top x x0 x1
   simp only [List.length_cons] at ht
   have rx : rd (x :: t) 0 = x := rfl
   have hfit := fitsAt hf x0 x1
   simp only [impl_field.l1, rx, List.length_cons]
   simp (disch := omega) only [show (x :: t).drop (1 : Int).toNat = t from rfl, ↓if_pos, ↓if_neg, if_pos, if_neg, decide_eq_true_eq, ↓reduceIte, ↓wrap_sc, wrap_id, some_bind, Int.toNat_natCast, rd_nat', getD_zero', Bool.not_true, Bool.not_false, Bool.false_eq_true, decide_true, decide_false]
   have yes : goF cs dst ld x = true → Ev (fun k => impl_field.j2 k dst ld out t x false w h cs) (bfs (nbF w h cs) (goF cs dst ld) (fuel + 1) out (x :: t)) := fun hg => Ev.unroll (by
    simp (disch := omega) only [impl_field.j2, ↓if_pos, ↓if_neg, if_pos, if_neg, decide_eq_true_eq, ↓reduceIte, ↓wrap_sc, wrap_id, some_bind, Int.toNat_natCast, rd_nat', getD_zero', Bool.not_true, Bool.not_false, Bool.false_eq_true, decide_true, decide_false]
    refine Ev.bind (impl_near_f w h cs x false hfit.1 hfit.2) ?_
    unfold bfs
    rw [if_pos hg]
    have ih := impl_field_l1 w h cs dst ld hf fuel _ _ (by omega) (r.next (l := nbF w h cs x) (fun c hc => nbF_in hf x x0 x1 c hc))
    exact impl_field_inner w h cs dst ld (nearL w h cs x false) x (rd out x + 1) _ (nearL_le _ _ _ _ _) (by omega) (by omega) (nearL w h cs x false).length 0 out t (by omega) (fun c hc => by rw [hl]; exact nbF_in hf x x0 x1 c hc) x0 (by omega) (by omega) (by have := nearL_le w h cs x false; omega) (by rw [List.drop_zero]; exact ih))
   have no : goF cs dst ld x = false → Ev (fun k => impl_field.j2 k dst ld out t x true w h cs) (bfs (nbF w h cs) (goF cs dst ld) (fuel + 1) out (x :: t)) := fun hg => Ev.unroll (by
    simp (disch := omega) only [impl_field.j2, ↓if_pos, ↓if_neg, if_pos, if_neg, decide_eq_true_eq, ↓reduceIte, ↓wrap_sc, wrap_id, some_bind, Int.toNat_natCast, rd_nat', getD_zero', Bool.not_true, Bool.not_false, Bool.false_eq_true, decide_true, decide_false]
    unfold bfs
    rw [hg]
    exact impl_field_l1 w h cs dst ld hf fuel _ _ (by omega) r.skip)
   cases ld with
   | false =>
    simp (disch := omega) only [↓if_pos, ↓if_neg, if_pos, if_neg, decide_eq_true_eq, ↓reduceIte, ↓wrap_sc, wrap_id, some_bind, Int.toNat_natCast, rd_nat', getD_zero', Bool.not_true, Bool.not_false, Bool.false_eq_true, decide_true, decide_false]
    exact yes (by unfold goF; simp)
   | true =>
    simp (disch := omega) only [↓if_pos, ↓if_neg, if_pos, if_neg, decide_eq_true_eq, ↓reduceIte, ↓wrap_sc, wrap_id, some_bind, Int.toNat_natCast, rd_nat', getD_zero', Bool.not_true, Bool.not_false, Bool.false_eq_true, decide_true, decide_false]
    by_cases hd : x = dst
    ·simp (disch := omega) only [hd, ↓if_pos, ↓if_neg, if_pos, if_neg, decide_eq_true_eq, ↓reduceIte, ↓wrap_sc, wrap_id, some_bind, Int.toNat_natCast, rd_nat', getD_zero', Bool.not_true, Bool.not_false, Bool.false_eq_true, decide_true, decide_false]
     rw [hd] at yes
     exact yes (by unfold goF; simp)
    ·simp (disch := omega) only [hd, ↓if_pos, ↓if_neg, if_pos, if_neg, decide_eq_true_eq, ↓reduceIte, ↓wrap_sc, wrap_id, some_bind, Int.toNat_natCast, rd_nat', getD_zero', Bool.not_true, Bool.not_false, Bool.false_eq_true, decide_true, decide_false]
     by_cases h2 : rd cs x = 2
     ·rw [h2]
      exact no (by unfold goF; simp [hd, h2])
     ·rw [show (rd cs x == 2) = false by simpa using h2]
      exact yes (by unfold goF; simp [h2]))
theorem impl_field_l0 (w h : Int) (cs : List Int) (dst : Int) (ld : Bool) (R : List Int) (hn : cs.length ≤ 100) (h0 : 0 ≤ dst) (h1 : dst < (cs.length : Int)) (hR : Ev (fun k => impl_field.l1 k dst ld ((List.replicate cs.length (-1 : Int)).set dst.toNat 0) [dst] w h cs) R) :
  ∀ (d i : Nat), i + d = cs.length → Ev (fun k => impl_field.l0 k dst ld (List.replicate i (-1) ++ List.replicate d 0) cs.length i w h cs) R
 | 0, i, e => Ev.unroll (by
   obtain rfl : i = cs.length := by omega
   simp (disch := omega) only [impl_field.l0, List.replicate_zero, List.append_nil, List.length_replicate, ↓if_pos, ↓if_neg, if_pos, if_neg, decide_eq_true_eq, ↓reduceIte, ↓wrap_sc, wrap_id, some_bind, Int.toNat_natCast, rd_nat', getD_zero', Bool.not_true, Bool.not_false, Bool.false_eq_true, decide_true, decide_false]
   exact hR)
 | d + 1, i, e => Ev.unroll (by
   simp (disch := omega) only [impl_field.l0, List.length_append, List.length_replicate, ↓if_pos, ↓if_neg, if_pos, if_neg, decide_eq_true_eq, ↓reduceIte, ↓wrap_sc, wrap_id, some_bind, Int.toNat_natCast, rd_nat', getD_zero', Bool.not_true, Bool.not_false, Bool.false_eq_true, decide_true, decide_false]
   rw [fill_step (List.replicate i (-1)) (List.replicate (d + 1) 0) (-1) (by simp) (by simp)]
   rw [← List.replicate_succ', show (List.replicate (d + 1) (0 : Int)).drop 1 = List.replicate d 0 from rfl]
   exact impl_field_l0 w h cs dst ld R hn h0 h1 hR d (i + 1) (by omega))
theorem impl_field_f (w h : Int) (cs : List Int) (dst : Int) (ld : Bool) (hf : floorOk w h cs = true) (h0 : 0 ≤ dst) (h1 : dst < (cs.length : Int)) : Ev (fun k => impl_field.f k w h cs dst ld) (fieldL w h cs dst ld) := by
 have hn := floorOk_area hf
 unfold impl_field.f fieldL bfsFrom
 simp (disch := omega) only [List.length_replicate, ↓if_pos, ↓if_neg, if_pos, if_neg, decide_eq_true_eq, ↓reduceIte, ↓wrap_sc, wrap_id, some_bind, Int.toNat_natCast, rd_nat', getD_zero', Bool.not_true, Bool.not_false, Bool.false_eq_true, decide_true, decide_false]
 exact impl_field_l0 w h cs dst ld _ hn h0 h1 (impl_field_l1 w h cs dst ld hf _ _ _ (by omega) (round_start hn h0 h1)) cs.length 0 (by omega)

theorem impl_isCell_f (w h : Int) (cs : List Int) (c : Int) (hn : cs.length ≤ BIG) : impl_isCell.f w h cs c = some (inB c 0 ((cs.length : Int) - 1)) := by
 unfold impl_isCell.f
 unfold BIG at hn
 rw [wrap_id (by omega) (by omega), impl_in_f]
 rfl

def kindAt (w h : Int) (cs : List Int) (c : Int) : Int := if (floorOk w h cs && inB c 0 ((cs.length : Int) - 1)) = true then cs.getD c.toNat 0 else 0
theorem impl_KindAt_f (w h : Int) (cs : List Int) (c : Int) (hn : cs.length ≤ BIG) : Ev (fun k => impl_KindAt.f k w h cs c) (kindAt w h cs c) := by
 unfold impl_KindAt.f kindAt
 refine Ev.bind (impl_FloorOk_f w h cs hn) ?_
 by_cases h1 : floorOk w h cs = true
 ·simp only [if_pos h1, impl_isCell_f w h cs c hn, some_bind]
  by_cases h2 : inB c 0 ((cs.length : Int) - 1) = true
  ·have h3 := inB_iff.1 h2
   simp only [if_pos h2, if_pos (show 0 ≤ c by omega), if_pos (show c < (cs.length : Int) by omega), h1, h2, Bool.true_and, if_true]
   exact Ev.now _
  ·simp only [if_neg h2, h1, Bool.true_and]
   exact Ev.now _
 ·simp only [if_neg h1]
  rw [Bool.not_eq_true] at h1
  exact Ev.fin (by rw [h1]; rfl)

theorem kindAt_rd {w h : Int} {cs : List Int} {c : Int} (hf : floorOk w h cs = true) (h0 : 0 ≤ c) (h1 : c < (cs.length : Int)) : kindAt w h cs c = rd cs c := by
 unfold kindAt
 rw [if_pos (by rw [hf, Bool.true_and, inB_iff]; omega)]; rfl

theorem fieldL_length {w h : Int} {cs : List Int} {dst : Int} {ld : Bool} (hf : floorOk w h cs = true) (h0 : 0 ≤ dst) (h1 : dst < (cs.length : Int)) : (fieldL w h cs dst ld).length = cs.length :=
 (bfs_from (go := goF cs dst ld) (nbF_in hf) ⟨h0, h1⟩).len
theorem goF_yes (cs : List Int) (dst : Int) : goF cs dst false = yes := by funext c; unfold goF; simp
def Cell (cs : List Int) (c : Int) : Prop := 0 ≤ c ∧ c < (cs.length : Int) ∧ rd cs c ≠ 0
theorem cell_next {w h : Int} {cs : List Int} (hf : floorOk w h cs = true) {a b : Int} (ha : Cell cs a) (hb : b ∈ nbF w h cs a) : Cell cs b ∧ a ∈ nbF w h cs b :=
 ⟨⟨(nbF_in hf a ha.1 ha.2.1 b hb).1, (nbF_in hf a ha.1 ha.2.1 b hb).2, nbF_no_wall hb⟩, nbF_sym hf ha.1 ha.2.1 ha.2.2 hb⟩
theorem walk_back {w h : Int} {cs : List Int} (hf : floorOk w h cs = true) {a : Int} (ha : Cell cs a) : ∀ {k : Nat} {c : Int}, Walk (nbF w h cs) yes a k c → Cell cs c ∧ Walk (nbF w h cs) yes c k a
 | _, _, .nil => ⟨ha, .nil⟩
 | _, _, .snoc w g hb => by
  have ih := walk_back hf ha w
  have := cell_next hf ih.1 hb
  exact ⟨this.1, Walk.cons rfl this.2 ih.2⟩
theorem reach_back {w h : Int} {cs : List Int} (hf : floorOk w h cs = true) {a c : Int} (ha : Cell cs a) : Reach (nbF w h cs) yes a c → Cell cs c ∧ Reach (nbF w h cs) yes c a := fun ⟨k, w⟩ => ⟨(walk_back hf ha w).1, k, (walk_back hf ha w).2⟩
theorem field_B {w h : Int} {cs : List Int} {dst : Int} (hf : floorOk w h cs = true) (h0 : 0 ≤ dst) (h1 : dst < (cs.length : Int)) : Bfs (nbF w h cs) yes dst cs.length (fieldL w h cs dst false) := by
 have := field_bfs false hf h0 h1
 rw [goF_yes] at this; exact this
theorem field_reach {w h : Int} {cs : List Int} {dst c : Int} (hf : floorOk w h cs = true) (h0 : 0 ≤ dst) (h1 : dst < (cs.length : Int)) (c0 : 0 ≤ c) (c1 : c < (cs.length : Int)) : 0 ≤ rd (fieldL w h cs dst false) c ↔ Reach (nbF w h cs) yes dst c :=
 (field_B hf h0 h1).reach (nbF_in hf) ⟨h0, h1⟩ c0 c1
def openN (cs : List Int) : Nat := cs.countP (fun x => decide (x ≠ 0))
def firstOpen : List Int → Nat → Int
 | [], _ => -1
 | x :: l, i => if x = 0 then firstOpen l (i + 1) else i
def togetherOf (w h : Int) (cs : List Int) : Bool := floorOk w h cs && (decide (0 < openN cs) && decide (cnt (fieldL w h cs (firstOpen cs 0) false) = openN cs))
theorem firstOpen_cell : ∀ (l : List Int) (i : Nat), 0 < openN l → ∃ j : Nat, firstOpen l i = ((i + j : Nat) : Int) ∧ j < l.length ∧ l.getD j 0 ≠ 0
 | [], i, h => by simp [openN] at h
 | x :: l, i, h => by
  unfold firstOpen
  by_cases e : x = 0
  ·rw [if_pos e]
   obtain ⟨j, h1, h2, h3⟩ := firstOpen_cell l (i + 1) (by unfold openN at h ⊢; rw [List.countP_cons] at h; simpa [e] using h)
   exact ⟨j + 1, by rw [h1]; congr 1; omega, by simp; omega, by simpa using h3⟩
  ·rw [if_neg e]
   exact ⟨0, rfl, by simp, by simpa using e⟩
theorem first_cell {cs : List Int} (h : 0 < openN cs) : Cell cs (firstOpen cs 0) := by
 obtain ⟨j, h1, h2, h3⟩ := firstOpen_cell cs 0 h
 rw [Nat.zero_add] at h1
 rw [h1]
 refine ⟨by omega, by omega, ?_⟩
 rw [rd_nat']; exact h3
theorem cnt_open {w h : Int} {cs : List Int} (hf : floorOk w h cs = true) {a : Int} (ha : Cell cs a) : cnt (fieldL w h cs a false) ≤ openN cs ∧ (cnt (fieldL w h cs a false) = openN cs ↔ ∀ c, Cell cs c → Reach (nbF w h cs) yes a c) := by
 have hl := fieldL_length (ld := false) hf ha.1 ha.2.1
 -- the cells that are no walls, as a list of noughts and ones below nought
 have key : ∀ (l : List Int), openN l = cnt (l.map fun x => if x = 0 then -1 else 0) := by
  intro l
  induction l with
  | nil => rfl
  | cons x l ih =>
   unfold openN cnt at ih ⊢
   rw [List.map_cons, List.countP_cons, List.countP_cons, ih]
   by_cases e : x = 0 <;> simp [e]
 have hr : ∀ c : Int, 0 ≤ c → c < (cs.length : Int) → rd (cs.map fun x => if x = 0 then -1 else 0) c = if rd cs c = 0 then -1 else 0 := by
  intro c c0 c1
  unfold rd
  rw [getD_at (by simp; omega), getD_at (by omega)]
  simp
 have h1 := cnt_sub (d := cs.map fun x => if x = 0 then -1 else 0) (d' := fieldL w h cs a false) (by rw [hl, List.length_map]) (fun c c0 c1 hc => by
  rw [List.length_map] at c1
  have := field_no_wall (ld := false) hf ha.1 ha.2.1 ha.2.2 c0 c1 hc
  rw [hr c c0 c1, if_neg this]; omega)
 rw [← key] at h1
 refine ⟨h1.1, fun e c hc => ?_, fun hh => ?_⟩
 ·have := h1.2 e c hc.1 (by rw [List.length_map]; exact hc.2.1) (by rw [hr c hc.1 hc.2.1, if_neg hc.2.2]; omega)
  exact (field_reach hf ha.1 ha.2.1 hc.1 hc.2.1).1 this
 ·rw [key]
  refine cnt_eq (by rw [hl, List.length_map]) fun c c0 c1 => ?_
  rw [List.length_map] at c1
  rw [hr c c0 c1]
  refine ⟨fun hc => ?_, fun hc => ?_⟩
  ·have := field_no_wall (ld := false) hf ha.1 ha.2.1 ha.2.2 c0 c1 hc
   rw [if_neg this]; omega
  ·by_cases e : rd cs c = 0
   ·rw [if_pos e] at hc; omega
   ·exact (field_reach hf ha.1 ha.2.1 c0 c1).2 (hh c ⟨c0, c1, e⟩)
theorem together_all {w h : Int} {cs : List Int} (ht : togetherOf w h cs = true) : floorOk w h cs = true ∧ ∀ a b, Cell cs a → Cell cs b → Reach (nbF w h cs) yes a b := by
 unfold togetherOf at ht
 simp only [Bool.and_eq_true, decide_eq_true_eq] at ht
 have hf := ht.1
 have hc := first_cell ht.2.1
 have h2 := (cnt_open hf hc).2.1 ht.2.2
 exact ⟨hf, fun a b ha hb => ((reach_back hf hc (h2 a ha)).2).trans (h2 b hb)⟩
theorem together_of {w h : Int} {cs : List Int} (hf : floorOk w h cs = true) (hn : 0 < openN cs) (hh : ∀ a b, Cell cs a → Cell cs b → Reach (nbF w h cs) yes a b) : togetherOf w h cs = true := by
 unfold togetherOf
 rw [hf, decide_eq_true hn, decide_eq_true ((cnt_open hf (first_cell hn)).2.2 fun c hc => hh _ c (first_cell hn) hc)]; rfl

def blockOf (w h : Int) (cs : List Int) (c : Int) : List Int := if kindAt w h cs c = 0 then cs else cs.set c.toNat 0
def blockOk (w h : Int) (cs : List Int) (c : Int) : Bool := decide (kindAt w h cs c ≠ 0)
theorem kindAt_cell {w h : Int} {cs : List Int} {c : Int} (hk : kindAt w h cs c ≠ 0) : 0 ≤ c ∧ c < (cs.length : Int) ∧ floorOk w h cs = true ∧ kindAt w h cs c = rd cs c := by
 unfold kindAt at hk ⊢
 by_cases h1 : (floorOk w h cs && inB c 0 ((cs.length : Int) - 1)) = true
 ·have h2 := inB_iff.1 (Bool.and_eq_true_iff.1 h1).2
  exact ⟨h2.1, by omega, (Bool.and_eq_true_iff.1 h1).1, by rw [if_pos h1]; rfl⟩
 ·rw [if_neg h1] at hk; exact absurd rfl hk
theorem impl_Block_f (w h : Int) (cs : List Int) (c : Int) (hn : cs.length ≤ 1048576) : Ev (fun k => impl_Block.f k w h cs c) (w, h, blockOf w h cs c, blockOk w h cs c) := by
 unfold impl_Block.f
 simp (disch := omega) only [impl_copyFloor_f w h cs hn, ↓if_pos, ↓if_neg, if_pos, if_neg, decide_eq_true_eq, ↓reduceIte, ↓wrap_sc, wrap_id, some_bind, Int.toNat_natCast, rd_nat', getD_zero', Bool.not_true, Bool.not_false, Bool.false_eq_true, decide_true, decide_false]
 refine Ev.bind (impl_KindAt_f w h cs c (by unfold BIG; omega)) ?_
 by_cases h1 : kindAt w h cs c = 0
 ·simp (disch := omega) only [h1, ↓if_pos, ↓if_neg, if_pos, if_neg, decide_eq_true_eq, ↓reduceIte, ↓wrap_sc, wrap_id, some_bind, Int.toNat_natCast, rd_nat', getD_zero', Bool.not_true, Bool.not_false, Bool.false_eq_true, decide_true, decide_false]
  exact Ev.fin (by unfold blockOf blockOk; rw [h1]; rfl)
 ·have h2 := kindAt_cell h1
  simp (disch := omega) only [↓if_pos, ↓if_neg, if_pos, if_neg, decide_eq_true_eq, ↓reduceIte, ↓wrap_sc, wrap_id, some_bind, Int.toNat_natCast, rd_nat', getD_zero', Bool.not_true, Bool.not_false, Bool.false_eq_true, decide_true, decide_false]
  exact Ev.fin (by unfold blockOf blockOk; rw [if_neg h1, decide_eq_true h1])

theorem floorOk_set {w h : Int} {cs : List Int} (hf : floorOk w h cs = true) (i : Nat) : floorOk w h (cs.set i 0) = true := by
 unfold floorOk kindsOk at hf ⊢
 simp only [Bool.and_eq_true, decide_eq_true_eq, allFrom_iff, List.length_set] at hf ⊢
 refine ⟨hf.1, fun j h0 hj => ?_⟩
 have := hf.2 j h0 hj
 rw [getD_at (by rw [List.length_set]; exact hj), List.getElem_set]
 split
 ·decide
 ·rwa [getD_at hj] at this
theorem nbF_set {w h : Int} {cs : List Int} (hf : floorOk w h cs = true) {i : Int} (i0 : 0 ≤ i) (i1 : i < (cs.length : Int)) {b c : Int} (b0 : 0 ≤ b) (b1 : b < (cs.length : Int)) : c ∈ nbF w h (cs.set i.toNat 0) b ↔ c ∈ nbF w h cs b ∧ c ≠ i := by
 have fb := (fitsAt hf b0 b1)
 unfold nbF
 rw [mem_nearL, mem_nearL]
 constructor
 ·rintro ⟨h1, h2, h3⟩
  have hc := mem_besideL fb.1 h1
  rw [rd_set i0 i1 hc.1] at h2
  split at h2
  ·exact absurd rfl h2
  ·rename_i hne
   exact ⟨⟨h1, h2, fun e => by cases e⟩, hne⟩
 ·rintro ⟨⟨h1, h2, h3⟩, hne⟩
  have hc := mem_besideL fb.1 h1
  exact ⟨h1, by rw [rd_set i0 i1 hc.1, if_neg hne]; exact h2, fun e => by cases e⟩
theorem reach_less {w h : Int} {cs : List Int} (hf : floorOk w h cs = true) {i : Int} (i0 : 0 ≤ i) (i1 : i < (cs.length : Int)) {a c : Int} (a0 : 0 ≤ a) (a1 : a < (cs.length : Int)) (hai : a ≠ i) (hr : Reach (nbF w h (cs.set i.toNat 0)) yes a c) : Reach (nbF w h cs) yes a c ∧ c ≠ i ∧ 0 ≤ c ∧ c < (cs.length : Int) := by
 have := Reach.stay (P := fun c => Reach (nbF w h cs) yes a c ∧ c ≠ i ∧ 0 ≤ c ∧ c < (cs.length : Int)) ⟨Reach.refl _ _ _, hai, a0, a1⟩ (fun b c hb hc => by
  have h1 := (nbF_set hf i0 i1 hb.2.2.1 hb.2.2.2).1 hc
  have h2 := nbF_in hf b hb.2.2.1 hb.2.2.2 c h1.1
  exact ⟨hb.1.trans (Reach.one h1.1), h1.2, h2.1, h2.2⟩) hr
 exact this
theorem reach_past' {w h : Int} {cs : List Int} (hf : floorOk w h cs = true) {i : Int} (i0 : 0 ≤ i) (i1 : i < (cs.length : Int)) {c : Int} (hr : Reach (nbF w h cs) yes i c) : c = i ∨ ∃ n ∈ nbF w h cs i, n ≠ i ∧ Reach (nbF w h (cs.set i.toNat 0)) yes n c := by
 obtain ⟨k, wk⟩ := hr
 have key : ∀ {k : Nat} {c : Int}, Walk (nbF w h cs) yes i k c → (0 ≤ c ∧ c < (cs.length : Int)) ∧ (c = i ∨ ∃ n ∈ nbF w h cs i, n ≠ i ∧ Reach (nbF w h (cs.set i.toNat 0)) yes n c) := by
  intro k c wk
  induction wk with
  | nil => exact ⟨⟨i0, i1⟩, Or.inl rfl⟩
  | @snoc k b c wk g hb ih =>
   have hc := nbF_in hf b ih.1.1 ih.1.2 c hb
   refine ⟨hc, ?_⟩
   by_cases hci : c = i
   ·exact Or.inl hci
   ·right
    rcases ih.2 with rfl | ⟨n, n1, n2, n3⟩
    ·exact ⟨c, hb, hci, Reach.refl _ _ _⟩
    ·exact ⟨n, n1, n2, n3.trans (Reach.one ((nbF_set hf i0 i1 ih.1.1 ih.1.2).2 ⟨hb, hci⟩))⟩
 exact (key wk).2
theorem cut_iff {w h : Int} {cs : List Int} (hf : floorOk w h cs = true) {i n0 : Int} (hi : Cell cs i) (hn : n0 ∈ nbF w h cs i) :
  cnt (fieldL w h (cs.set i.toNat 0) n0 false) + 1 = cnt (fieldL w h cs i false) ↔ ∀ n ∈ nbF w h cs i, Reach (nbF w h (cs.set i.toNat 0)) yes n0 n := by
 have hf' := floorOk_set hf i.toNat
 have hr := nbF_in hf i hi.1 hi.2.1 n0 hn
 have hne : n0 ≠ i := fun e => not_mem_self (fitsAt hf hi.1 hi.2.1).1 (by rw [e] at hn; exact (mem_nearL.1 hn).1)
 have l1 := fieldL_length (ld := false) hf hi.1 hi.2.1
 have l2 := fieldL_length (ld := false) hf' hr.1 (by rw [List.length_set]; exact hr.2)
 rw [List.length_set] at l2
 have B := field_B hf hi.1 hi.2.1
 have key := (cnt_but (d := fieldL w h cs i false) (d' := fieldL w h (cs.set i.toNat 0) n0 false) (a := i) (by rw [l1, l2]) hi.1 (by rw [l1]; exact hi.2.1) (by rw [B.zero]; omega) (fun c c0 c1 hc => by
  rw [l1] at c1
  have h1 := (field_reach hf' hr.1 (by rw [List.length_set]; exact hr.2) c0 (by rw [List.length_set]; exact c1)).1 hc
  have h2 := reach_less hf hi.1 hi.2.1 hr.1 hr.2 hne h1
  exact ⟨(field_reach hf hi.1 hi.2.1 c0 c1).2 ((Reach.one hn).trans h2.1), h2.2.1⟩)).2
 rw [key]
 constructor
 ·intro hh n hnn
  have h3 := nbF_in hf i hi.1 hi.2.1 n hnn
  have h4 : n ≠ i := fun e => not_mem_self (fitsAt hf hi.1 hi.2.1).1 (by rw [e] at hnn; exact (mem_nearL.1 hnn).1)
  have h5 := hh n h3.1 (by rw [l1]; exact h3.2) h4 ((field_reach hf hi.1 hi.2.1 h3.1 h3.2).2 (Reach.one hnn))
  exact (field_reach hf' hr.1 (by rw [List.length_set]; exact hr.2) h3.1 (by rw [List.length_set]; exact h3.2)).1 h5
 ·intro hh c c0 c1 hci hc
  rw [l1] at c1
  have h1 := (field_reach hf hi.1 hi.2.1 c0 c1).1 hc
  rcases reach_past' hf hi.1 hi.2.1 h1 with e | ⟨n, n1, n2, n3⟩
  ·exact absurd e hci
  ·exact (field_reach hf' hr.1 (by rw [List.length_set]; exact hr.2) c0 (by rw [List.length_set]; exact c1)).2 ((hh n n1).trans n3)
def cutB (w h : Int) (cs : List Int) (i : Int) : Bool := match nbF w h cs i with
 | [] => false
 | n0 :: _ => !decide (cnt (fieldL w h (cs.set i.toNat 0) n0 false) + 1 = cnt (fieldL w h cs i false))
def isCut (w h : Int) (cs : List Int) (j : Nat) : Bool := decide (cs.getD j 0 ≠ 0) && cutB w h cs j
def cutsOf (w h : Int) (cs : List Int) : List Int := if floorOk w h cs = true then filtFrom cs.length 0 (isCut w h cs) else []
theorem cut_single {w h : Int} {cs : List Int} (hf : floorOk w h cs = true) {i : Int} (hi : Cell cs i) (hl : (nbF w h cs i).length ≤ 1) : cutB w h cs i = false := by
 unfold cutB
 match e : nbF w h cs i with
 | [] => rfl
 | n0 :: t =>
  rw [e] at hl
  have ht : t = [] := by cases t with | nil => rfl | cons a b => simp at hl
  have := (cut_iff hf hi (n0 := n0) (by rw [e]; simp)).2 (fun n hn => by
   rw [e, ht, List.mem_singleton] at hn
   rw [hn]; exact Reach.refl _ _ _)
  simp only [decide_eq_true this, Bool.not_true]
theorem cut_far {w h : Int} {cs : List Int} (hf : floorOk w h cs = true) {i : Int} (hi : Cell cs i) {n0 : Int} {t : List Int} (e : nbF w h cs i = n0 :: t) : cutB w h cs i = true ↔ ∃ n ∈ nbF w h cs i, ¬ Reach (nbF w h (cs.set i.toNat 0)) yes n0 n := by
 have k := cut_iff hf hi (n0 := n0) (by rw [e]; simp)
 unfold cutB
 rw [e]
 simp only [Bool.not_eq_true', decide_eq_false_iff_not]
 rw [k, e]
 exact Classical.not_forall.trans ⟨fun ⟨n, hn⟩ => by
  have := Classical.not_imp.1 hn
  exact ⟨n, this.1, this.2⟩, fun ⟨n, h1, h2⟩ => ⟨n, fun hh => h2 (hh h1)⟩⟩

theorem impl_open_l0 (cs : List Int) (hn : cs.length ≤ 1048576) : ∀ (d i : Nat) (m : Nat) (f : Int), i + d = cs.length → m ≤ i → Ev (fun k => impl_open.l0 k m f cs cs.length i) (((m + openN (cs.drop i) : Nat) : Int), if m = 0 then (if 0 < openN (cs.drop i) then firstOpen (cs.drop i) i else f) else f)
 | 0, i, m, f, e, hm => Ev.unroll (by
   simp only [impl_open.l0]
   refine Ev.ifn (by omega) (Ev.fin ?_)
   rw [drop_end (by omega)]
   simp [openN])
 | d + 1, i, m, f, e, hm => Ev.unroll (by
   have hi : i < cs.length := by omega
   have er := rd_nat hi
   have ho : openN (cs.drop i) = (if cs[i] = 0 then 0 else 1) + openN (cs.drop (i + 1)) := by
    rw [drop_cons hi]
    unfold openN
    rw [List.countP_cons]
    by_cases e : cs[i] = 0 <;> simp [e]; omega
   have hfi : firstOpen (cs.drop i) i = if cs[i] = 0 then firstOpen (cs.drop (i + 1)) (i + 1) else i := by rw [drop_cons hi]; rfl
   simp only [impl_open.l0, er]
   refine Ev.ifp (by omega) (Ev.ifp (by omega) (Ev.ifp (by omega) ?_))
   rw [wrap_sc (i := i) (by omega), ho, hfi]
   by_cases h0 : cs[i] = 0
   ·rw [if_pos h0, if_pos h0, Nat.zero_add]
    exact Ev.ifp h0 (impl_open_l0 cs hn d (i + 1) m f (by omega) (by omega))
   ·rw [if_neg h0, if_neg h0]
    refine Ev.ifn h0 ?_
    rw [wrap_sc (i := m) (by omega)]
    have ih := fun f => impl_open_l0 cs hn d (i + 1) (m + 1) f (by omega) (by omega)
    simp only [if_neg (show ¬ m + 1 = 0 by omega)] at ih
    rw [show m + (1 + openN (cs.drop (i + 1))) = m + 1 + openN (cs.drop (i + 1)) by omega]
    by_cases hm0 : m = 0
    ·rw [if_pos hm0, if_pos (by omega)]
     exact Ev.ifp (by omega) (ih i)
    ·rw [if_neg hm0]
     exact Ev.ifn (by omega) (ih f))
theorem impl_open_f (w h : Int) (cs : List Int) (hn : cs.length ≤ 1048576) : Ev (fun k => impl_open.f k w h cs) (((openN cs : Nat) : Int), if 0 < openN cs then firstOpen cs 0 else -1) := by
 have := impl_open_l0 cs hn cs.length 0 0 (-1) (by omega) (by omega)
 simp only [Nat.zero_add, List.drop_zero, if_true] at this
 exact this
theorem impl_reach_l0 (d : List Int) (hn : d.length ≤ 1048576) : ∀ (e i m : Nat), i + e = d.length → m ≤ i → Ev (fun k => impl_reach.l0 k m d d.length i) ((m + cnt (d.drop i) : Nat) : Int)
 | 0, i, m, he, hm => Ev.unroll (by
   simp only [impl_reach.l0]
   exact Ev.ifn (by omega) (Ev.fin (by rw [drop_end (by omega)]; rfl)))
 | e + 1, i, m, he, hm => Ev.unroll (by
   have hi : i < d.length := by omega
   have er := rd_nat hi
   have ho : cnt (d.drop i) = (if 0 ≤ d[i] then 1 else 0) + cnt (d.drop (i + 1)) := by
    rw [drop_cons hi]
    unfold cnt
    rw [List.countP_cons]
    by_cases e : 0 ≤ d[i] <;> simp [e]; omega
   simp only [impl_reach.l0, er]
   refine Ev.ifp (by omega) (Ev.ifp (by omega) (Ev.ifp (by omega) ?_))
   rw [wrap_sc (i := i) (by omega), ho]
   by_cases h0 : 0 ≤ d[i]
   ·rw [if_pos h0]
    refine Ev.ifp h0 ?_
    rw [wrap_sc (i := m) (by omega), show m + (1 + cnt (d.drop (i + 1))) = m + 1 + cnt (d.drop (i + 1)) by omega]
    exact impl_reach_l0 d hn e (i + 1) (m + 1) (by omega) (by omega)
   ·rw [if_neg h0, Nat.zero_add]
    exact Ev.ifn (by omega) (impl_reach_l0 d hn e (i + 1) m (by omega) (by omega)))
theorem impl_reach_f (w h : Int) (cs : List Int) (a : Int) (hf : floorOk w h cs = true) (h0 : 0 ≤ a) (h1 : a < (cs.length : Int)) : Ev (fun k => impl_reach.f k w h cs a) ((cnt (fieldL w h cs a false) : Nat) : Int) := by
 have hl := fieldL_length (ld := false) hf h0 h1
 have ha := floorOk_area hf
 unfold impl_reach.f
 refine Ev.bind (impl_field_f w h cs a false hf h0 h1) ?_
 have := impl_reach_l0 (fieldL w h cs a false) (by omega) _ 0 0 (Nat.zero_add _) (by omega)
 simp only [Nat.zero_add, List.drop_zero] at this
 exact this
theorem impl_Together_f (w h : Int) (cs : List Int) (hn : cs.length ≤ BIG) : Ev (fun k => impl_Together.f k w h cs) (togetherOf w h cs) := by
 unfold impl_Together.f togetherOf
 refine Ev.bind (impl_FloorOk_f w h cs hn) ?_
 by_cases hf : floorOk w h cs = true
 ·have ha := floorOk_area hf
  refine Ev.ifp hf (Ev.bind (impl_open_f w h cs (by omega)) ?_)
  dsimp only
  by_cases ho : 0 < openN cs
  ·have hc := first_cell ho
   rw [if_pos ho, hf, decide_eq_true ho]
   refine Ev.ifp (by omega) (Ev.bind (impl_reach_f w h cs _ hf hc.1 hc.2.1) (Ev.fin ?_))
   rw [Bool.true_and, Bool.true_and, Bool.eq_iff_iff, beq_iff_eq, decide_eq_true_eq]
   omega
  ·rw [decide_eq_false ho, Bool.false_and, Bool.and_false]
   exact Ev.ifn (by omega) (Ev.now _)
 ·refine Ev.ifn hf (Ev.fin ?_)
  rw [Bool.not_eq_true] at hf
  rw [hf, Bool.false_and]

theorem impl_parts_f (w h : Int) (cs : List Int) (i : Nat) (hf : floorOk w h cs = true) (hi : Cell cs i) : Ev (fun k => impl_parts.f k w h cs i) (cutB w h cs i) := by
 have ha := floorOk_area hf
 have fx := fitsAt hf hi.1 hi.2.1
 have hf' := floorOk_set hf i
 have c1 := cnt_le (fieldL w h cs i false)
 have l1 := fieldL_length (ld := false) hf hi.1 hi.2.1
 have hi1 := hi.2.1
 have hnear := impl_near_f w h cs i false fx.1 fx.2
 rw [show nearL w h cs i false = nbF w h cs i from rfl] at hnear
 have hnb := nbF_in hf i hi.1 hi.2.1
 have hcb : cutB w h cs i = match nbF w h cs i with
  | [] => false
  | n0 :: _ => !decide (cnt (fieldL w h (cs.set (i : Int).toNat 0) n0 false) + 1 = cnt (fieldL w h cs i false)) := rfl
 unfold impl_parts.f
 match e : nbF w h cs i with
 | [] =>
  rw [e] at hnear hcb
  rw [hcb]
  exact Ev.bind hnear (Ev.ifp rfl (Ev.now _))
 | n0 :: t =>
  rw [e] at hnear hcb
  rw [hcb]
  have hr := hnb n0 (by rw [e]; simp)
  have l2 := fieldL_length (ld := false) hf' hr.1 (by rw [List.length_set]; exact hr.2)
  have c2 := cnt_le (fieldL w h (cs.set i 0) n0 false)
  rw [l2, List.length_set] at c2
  refine Ev.bind hnear (Ev.ifn (by first | (simp; done) | (simp; omega)) (Ev.bind (impl_reach_f w h cs i hf hi.1 hi.2.1) ?_))
  simp only [impl_copyFloor_f w h cs (by omega), some_bind]
  refine Ev.ifp (by omega) (Ev.ifp (by omega) (Ev.ifp (by first | (simp; done) | (simp; omega)) ?_))
  rw [show rd (n0 :: t) 0 = n0 from rfl, Int.toNat_natCast]
  refine Ev.bind (impl_reach_f w h (cs.set i 0) n0 hf' hr.1 (by rw [List.length_set]; exact hr.2)) (Ev.fin ?_)
  rw [wrap_id (by omega) (by omega), Bool.eq_iff_iff]
  simp only [bne_iff_ne, ne_eq, Bool.not_eq_true', decide_eq_false_iff_not]
  omega
theorem impl_Cuts_l0 (w h : Int) (cs : List Int) (hf : floorOk w h cs = true) : ∀ (d i : Nat) (acc : List Int), i + d = cs.length → acc.length ≤ i → Ev (fun k => impl_Cuts.l0 k acc cs cs.length i w h cs) (acc ++ filtFrom cs.length i (isCut w h cs))
 | 0, i, acc, e, ha => Ev.unroll (by
   simp only [impl_Cuts.l0]
   exact Ev.ifn (by omega) (Ev.fin (by rw [filtFrom_end (by omega)]; simp)))
 | d + 1, i, acc, e, ha => Ev.unroll (by
   have hA := floorOk_area hf
   have hi : i < cs.length := by omega
   simp only [impl_Cuts.l0, wrap_sc (show i < 9223372036854775807 by omega)]
   refine Ev.ifp (by omega) (Ev.ifp (by omega) (Ev.ifp (by omega) ?_))
   by_cases h0 : rd cs i = 0
   ·rw [filtFrom_no hi (by unfold isCut; rw [← rd_nat', h0]; rfl)]
    exact Ev.ifp h0 (impl_Cuts_l0 w h cs hf d (i + 1) acc (by omega) (by omega))
   ·have hc : isCut w h cs i = cutB w h cs i := by unfold isCut; rw [← rd_nat', decide_eq_true h0, Bool.true_and]
    refine Ev.ifn h0 (Ev.bind (impl_parts_f w h cs i hf ⟨by omega, by omega, h0⟩) (ev_ite' (fun h1 => ?_) (fun h1 => ?_)))
    ·rw [filtFrom_yes hi (by rw [hc]; exact h1)]
     have := impl_Cuts_l0 w h cs hf d (i + 1) (acc ++ [(i : Int)]) (by omega) (by first | (simp; done) | (simp; omega))
     rw [List.append_assoc] at this
     exact Ev.ifp (by omega) this
    ·rw [filtFrom_no hi (by rw [hc]; simpa using h1)]
     exact impl_Cuts_l0 w h cs hf d (i + 1) acc (by omega) (by omega))
theorem impl_Cuts_f (w h : Int) (cs : List Int) (hn : cs.length ≤ BIG) : Ev (fun k => impl_Cuts.f k w h cs) (cutsOf w h cs) := by
 unfold impl_Cuts.f cutsOf
 exact Ev.bind (impl_FloorOk_f w h cs hn) (ev_ite (fun hf => impl_Cuts_l0 w h cs hf cs.length 0 [] (by omega) (by simp)) (fun _ => Ev.now _))

theorem spec_l2Reached_l0 (d : List Int) (hn : d.length ≤ 1048576) : ∀ (e i m : Nat), i + e = d.length → m ≤ i → Ev (fun k => spec_l2Reached.l0 k m d i) ((m + cnt (d.drop i) : Nat) : Int)
 | 0, i, m, he, hm => Ev.unroll (by
   simp only [spec_l2Reached.l0]
   exact Ev.ifn (by omega) (Ev.fin (by rw [drop_end (by omega)]; rfl)))
 | e + 1, i, m, he, hm => Ev.unroll (by
   have hi : i < d.length := by omega
   have er := rd_nat hi
   have ho : cnt (d.drop i) = (if 0 ≤ d[i] then 1 else 0) + cnt (d.drop (i + 1)) := by
    rw [drop_cons hi]
    unfold cnt
    rw [List.countP_cons]
    by_cases e : 0 ≤ d[i] <;> simp [e]; omega
   simp only [spec_l2Reached.l0, er]
   refine Ev.ifp (by omega) (Ev.ifp (by omega) ?_)
   rw [wrap_sc (i := i) (by omega), ho]
   by_cases h0 : 0 ≤ d[i]
   ·rw [if_pos h0]
    refine Ev.ifp h0 ?_
    rw [wrap_sc (i := m) (by omega), show m + (1 + cnt (d.drop (i + 1))) = m + 1 + cnt (d.drop (i + 1)) by omega]
    exact spec_l2Reached_l0 d hn e (i + 1) (m + 1) (by omega) (by omega)
   ·rw [if_neg h0, Nat.zero_add]
    exact Ev.ifn (by omega) (spec_l2Reached_l0 d hn e (i + 1) m (by omega) (by omega)))
theorem spec_l2Reached_j0 (w h : Int) (cs : List Int) (a : Int) (hf : floorOk w h cs = true) (h0 : 0 ≤ a) (h1 : a < (cs.length : Int)) : Ev (fun k => spec_l2Reached.j0 k a w h cs) ((cnt (fieldL w h cs a false) : Nat) : Int) := Ev.unroll (by
 have hl := fieldL_length (ld := false) hf h0 h1
 have ha := floorOk_area hf
 simp only [spec_l2Reached.j0]
 refine Ev.bind (spec_l2Field_f w h cs a false hf h0 h1) ?_
 have := spec_l2Reached_l0 (fieldL w h cs a false) (by omega) _ 0 0 (Nat.zero_add _) (by omega)
 simp only [Nat.zero_add, List.drop_zero] at this
 exact this)
theorem spec_l2Reached_all (w h : Int) (cs : List Int) (a : Int) (hf : floorOk w h cs = true) (h0 : 0 ≤ a) (h1 : a < (cs.length : Int)) : Ev (fun k => spec_l2Reached.f k w h cs a (-1)) ((cnt (fieldL w h cs a false) : Nat) : Int) := by
 have ha := floorOk_area hf
 unfold spec_l2Reached.f
 simp only [spec_l1Copy_f w h cs (by omega), some_bind]
 exact Ev.ifn (by omega) (spec_l2Reached_j0 w h cs a hf h0 h1)
theorem spec_l2Reached_but (w h : Int) (cs : List Int) (a : Int) (i : Nat) (hf : floorOk w h cs = true) (h0 : 0 ≤ a) (h1 : a < (cs.length : Int)) (hi : i < cs.length) : Ev (fun k => spec_l2Reached.f k w h cs a i) ((cnt (fieldL w h (cs.set i 0) a false) : Nat) : Int) := by
 have ha := floorOk_area hf
 unfold spec_l2Reached.f
 simp only [spec_l1Copy_f w h cs (by omega), some_bind, Int.toNat_natCast]
 exact Ev.ifp (by omega) (Ev.ifp (by omega) (Ev.ifp (by omega) (spec_l2Reached_j0 w h _ a (floorOk_set hf i) h0 (by rw [List.length_set]; exact h1))))

theorem spec_Cuts_l0 (w h : Int) (cs : List Int) (hf : floorOk w h cs = true) : ∀ (d i : Nat) (acc : List Int), i + d = cs.length → acc.length ≤ i → Ev (fun k => spec_Cuts.l0 k acc i w h cs) (acc ++ filtFrom cs.length i (isCut w h cs))
 | 0, i, acc, e, ha => Ev.unroll (by
   simp only [spec_Cuts.l0]
   exact Ev.ifn (by omega) (Ev.fin (by rw [filtFrom_end (by omega)]; simp)))
 | d + 1, i, acc, e, ha => Ev.unroll (by
   have hA := floorOk_area hf
   have hi : i < cs.length := by omega
   have fx := fitsAt hf (show (0 : Int) ≤ (i : Int) by omega) (by omega)
   simp only [spec_Cuts.l0, wrap_sc (show i < 9223372036854775807 by omega)]
   refine Ev.ifp (by omega) (Ev.ifp (by omega) ?_)
   have go : ∀ b : Bool, isCut w h cs i = b → Ev (fun k => if b = true then (if acc.length < 17592186044416 then spec_Cuts.l0 k (acc ++ [(i : Int)]) ((i + 1 : Nat) : Int) w h cs else none) else spec_Cuts.l0 k acc ((i + 1 : Nat) : Int) w h cs) (acc ++ filtFrom cs.length i (isCut w h cs)) := fun b hb => by
    cases b with
    | true =>
     rw [filtFrom_yes hi hb]
     have := spec_Cuts_l0 w h cs hf d (i + 1) (acc ++ [(i : Int)]) (by omega) (by simp; omega)
     rw [List.append_assoc] at this
     exact Ev.ifp rfl (Ev.ifp (by omega) this)
    | false =>
     rw [filtFrom_no hi hb]
     exact Ev.ifn (by decide) (spec_Cuts_l0 w h cs hf d (i + 1) acc (by omega) (by omega))
   have no : isCut w h cs i = false → Ev (fun k => spec_Cuts.l0 k acc ((i + 1 : Nat) : Int) w h cs) (acc ++ filtFrom cs.length i (isCut w h cs)) := fun hb => by
    have := go false hb
    simp only [Bool.false_eq_true, if_false] at this
    exact this
   by_cases h0 : rd cs i = 0
   ·exact Ev.ifp h0 (no (by unfold isCut; rw [← rd_nat', h0]; rfl))
   ·have hc : isCut w h cs i = cutB w h cs i := by unfold isCut; rw [← rd_nat', decide_eq_true h0, Bool.true_and]
    have ci : Cell cs i := ⟨by omega, by omega, h0⟩
    have c1 := cnt_le (fieldL w h cs i false)
    have l1 := fieldL_length (ld := false) hf ci.1 ci.2.1
    have hnb := nbF_in hf i ci.1 ci.2.1
    refine Ev.ifn h0 (Ev.bind (spec_l1Near_f w h cs i false fx.1 fx.2) (Ev.bind (spec_l2Reached_all w h cs i hf ci.1 ci.2.1) ?_))
    show Ev (fun k => if ((nbF w h cs i).length : Int) > 1 then (if 0 < ((nbF w h cs i).length : Int) then (spec_l2Reached.f k w h cs (rd (nbF w h cs i) 0) i).bind _ else none) else _) _
    by_cases h1 : (nbF w h cs i).length ≤ 1
    ·exact Ev.ifn (by omega) (no (by rw [hc]; exact cut_single hf ci h1))
    ·refine Ev.ifp (by omega) (Ev.ifp (by omega) ?_)
     have hcc : cutB w h cs i = match nbF w h cs i with
      | [] => false
      | n0 :: _ => !decide (cnt (fieldL w h (cs.set (i : Int).toNat 0) n0 false) + 1 = cnt (fieldL w h cs i false)) := rfl
     match e : nbF w h cs i with
     | [] => rw [e] at h1; simp at h1
     | n0 :: t =>
      rw [e] at hcc
      have hr := hnb n0 (by rw [e]; simp)
      rw [show rd (n0 :: t) 0 = n0 from rfl]
      refine Ev.bind (spec_l2Reached_but w h cs n0 i hf hr.1 hr.2 hi) ?_
      rw [Int.toNat_natCast] at hcc
      rw [wrap_id (by omega) (by omega)]
      by_cases h2 : cnt (fieldL w h (cs.set i 0) n0 false) + 1 = cnt (fieldL w h cs i false)
      ·exact Ev.ifp (by omega) (no (by rw [hc, hcc]; simp [h2]))
      ·refine Ev.ifn (by omega) ?_
       have := go true (by rw [hc, hcc]; simp [h2])
       simp only [if_true] at this
       exact this)
theorem spec_Cuts_f (w h : Int) (cs : List Int) (hn : cs.length ≤ BIG) : Ev (fun k => spec_Cuts.f k w h cs) (cutsOf w h cs) := by
 unfold spec_Cuts.f cutsOf
 simp only [some_bind]
 exact Ev.bind (spec_FloorOk_f w h cs hn) (ev_ite (fun hf => spec_Cuts_l0 w h cs hf cs.length 0 [] (by omega) (by simp)) (fun _ => Ev.now _))

def openL (cs : List Int) : List Int := filtFrom cs.length 0 (fun j => decide (cs.getD j 0 ≠ 0))
theorem openL_facts (cs : List Int) : ∀ (d i : Nat), i + d = cs.length → (filtFrom cs.length i (fun j => decide (cs.getD j 0 ≠ 0))).length = openN (cs.drop i) ∧ (0 < openN (cs.drop i) → rd (filtFrom cs.length i (fun j => decide (cs.getD j 0 ≠ 0))) 0 = firstOpen (cs.drop i) i)
 | 0, i, e => by
  rw [filtFrom_end (by omega), drop_end (by omega)]
  exact ⟨rfl, fun h => by simp [openN] at h⟩
 | d + 1, i, e => by
  have hi : i < cs.length := by omega
  have ih := openL_facts cs d (i + 1) (by omega)
  have ho : openN (cs.drop i) = (if cs[i] = 0 then 0 else 1) + openN (cs.drop (i + 1)) := by
   rw [drop_cons hi]
   unfold openN
   rw [List.countP_cons]
   by_cases e : cs[i] = 0 <;> simp [e]; omega
  have hfi : firstOpen (cs.drop i) i = if cs[i] = 0 then firstOpen (cs.drop (i + 1)) (i + 1) else i := by rw [drop_cons hi]; rfl
  rw [ho, hfi]
  by_cases h0 : cs[i] = 0
  ·rw [filtFrom_no hi (by simp [h0, hi]), if_pos h0, if_pos h0, Nat.zero_add]
   exact ih
  ·rw [filtFrom_yes hi (by simp [h0, hi]), if_neg h0, if_neg h0]
   exact ⟨by rw [List.length_cons, ih.1]; omega, fun _ => rfl⟩
theorem spec_l2Free_l0 (w h : Int) (cs : List Int) (hn : cs.length ≤ 1048576) : ∀ (d i : Nat) (acc : List Int), i + d = cs.length → acc.length ≤ i → Ev (fun k => spec_l2Free.l0 k acc i w h cs) (acc ++ filtFrom cs.length i (fun j => decide (cs.getD j 0 ≠ 0)))
 | 0, i, acc, e, ha => Ev.unroll (by
   simp only [spec_l2Free.l0]
   exact Ev.ifn (by omega) (Ev.fin (by rw [filtFrom_end (by omega)]; simp)))
 | d + 1, i, acc, e, ha => Ev.unroll (by
   have hi : i < cs.length := by omega
   simp only [spec_l2Free.l0, wrap_sc (show i < 9223372036854775807 by omega)]
   refine Ev.ifp (by omega) (Ev.ifp (by omega) (ev_ite' (fun h0 => ?_) (fun h0 => Ev.ifp (by omega) ?_)))
   ·rw [rd_nat'] at h0
    rw [filtFrom_no hi (by simp only [ne_eq, decide_eq_false_iff_not, Classical.not_not]; exact h0)]
    exact spec_l2Free_l0 w h cs hn d (i + 1) acc (by omega) (by omega)
   ·rw [rd_nat'] at h0
    rw [filtFrom_yes hi (by simp only [ne_eq, decide_eq_true_eq]; exact h0)]
    have := spec_l2Free_l0 w h cs hn d (i + 1) (acc ++ [(i : Int)]) (by omega) (by simp; omega)
    rw [List.append_assoc] at this
    exact this)
theorem spec_l2Free_f (w h : Int) (cs : List Int) (hn : cs.length ≤ 1048576) : Ev (fun k => spec_l2Free.f k w h cs) (openL cs) := spec_l2Free_l0 w h cs hn cs.length 0 [] (by omega) (by simp)
theorem spec_Together_f (w h : Int) (cs : List Int) (hn : cs.length ≤ 1048576) : Ev (fun k => spec_Together.f k w h cs) (togetherOf w h cs) := by
 unfold spec_Together.f togetherOf
 have ho := openL_facts cs cs.length 0 (by omega)
 rw [List.drop_zero] at ho
 refine Ev.bind (spec_FloorOk_f w h cs (by unfold BIG; omega)) ?_
 by_cases hf : floorOk w h cs = true
 ·refine Ev.ifp hf (Ev.bind (spec_l2Free_f w h cs hn) ?_)
  unfold openL
  rw [ho.1, hf]
  by_cases h0 : 0 < openN cs
  ·have hc := first_cell h0
   rw [ho.2 h0, decide_eq_true h0]
   refine Ev.ifp (by omega) (Ev.ifp (by omega) (Ev.bind (spec_l2Reached_all w h cs _ hf hc.1 hc.2.1) (Ev.fin ?_)))
   rw [Bool.true_and, Bool.true_and, Bool.eq_iff_iff, beq_iff_eq, decide_eq_true_eq]
   omega
  ·rw [decide_eq_false h0, Bool.false_and, Bool.and_false]
   exact Ev.ifn (by omega) (Ev.now _)
 ·refine Ev.ifn hf (Ev.fin ?_)
  rw [Bool.not_eq_true] at hf
  rw [hf, Bool.false_and]

def soundOf (w h : Int) (cs : List Int) : Bool := togetherOf w h cs && (decide (4 ≤ openN cs) && decide ((cutsOf w h cs).length = 0))
theorem impl_Sound_f (w h : Int) (cs : List Int) (hn : cs.length ≤ 1048576) : Ev (fun k => impl_Sound.f k w h cs) (soundOf w h cs) := by
 unfold impl_Sound.f soundOf
 refine Ev.bind (impl_Together_f w h cs (by unfold BIG; omega)) ?_
 by_cases ht : togetherOf w h cs = true
 ·refine Ev.ifp ht (Ev.bind (impl_open_f w h cs hn) ?_)
  dsimp only
  rw [ht, Bool.true_and]
  by_cases h4 : 4 ≤ openN cs
  ·rw [decide_eq_true h4, Bool.true_and]
   exact Ev.ifp (by omega) (Ev.bind (impl_Cuts_f w h cs (by unfold BIG; omega)) (Ev.fin (by rw [Bool.eq_iff_iff, beq_iff_eq, decide_eq_true_eq]; omega)))
  ·rw [decide_eq_false h4, Bool.false_and]
   exact Ev.ifn (by omega) (Ev.now _)
 ·rw [Bool.not_eq_true] at ht
  rw [ht]
  exact Ev.ifn (by decide) (Ev.now _)
theorem spec_Sound_f (w h : Int) (cs : List Int) (hn : cs.length ≤ 1048576) : Ev (fun k => spec_Sound.f k w h cs) (soundOf w h cs) := by
 have ho := openL_facts cs cs.length 0 (by omega)
 rw [List.drop_zero] at ho
 unfold spec_Sound.f soundOf
 refine Ev.bind (spec_Together_f w h cs hn) ?_
 by_cases ht : togetherOf w h cs = true
 ·refine Ev.ifp ht (Ev.bind (spec_l2Free_f w h cs hn) ?_)
  unfold openL
  rw [ho.1, ht, Bool.true_and]
  by_cases h4 : 4 ≤ openN cs
  ·rw [decide_eq_true h4, Bool.true_and]
   exact Ev.ifp (by omega) (Ev.bind (spec_Cuts_f w h cs (by unfold BIG; omega)) (Ev.fin (by rw [Bool.eq_iff_iff, beq_iff_eq, decide_eq_true_eq]; omega)))
  ·rw [decide_eq_false h4, Bool.false_and]
   exact Ev.ifn (by omega) (Ev.now _)
 ·rw [Bool.not_eq_true] at ht
  rw [ht]
  exact Ev.ifn (by decide) (Ev.now _)

theorem l1FloorAny_ok (b : List Int) (i s : Int) (hi : 0 ≤ i) (hb : b.length ≤ 1048576) : ∃ (w h : Int) (cs : List Int) (i' s' : Int), Ev (fun k => spec_l1FloorAny.f k b i s) (w, h, cs, i', s') ∧ cs.length ≤ 100 := by
 unfold spec_l1FloorAny.f
 obtain ⟨w, h, cs, i1, s1, e1, hd, hi1⟩ := l1Floor_ok b i s hi hb
 obtain ⟨x, i2, s2, e2, hi2, x0, x1, _⟩ := l1Below_ok b i1 s1 14 hi1 hb
 have hl := hd.len
 by_cases c0 : x = 0
 ·obtain ⟨y, i3, s3, e3, hi3, _⟩ := l1Int_ok b i2 s2 [0, 11, (-1), wrap64 (w + 1)] hi2 hb (by simp) (by simp)
  refine ⟨y, h, cs, i3, s3, Ev.bind e1 ?_, by omega⟩
  simp only [e2, some_bind]
  refine Ev.ifp c0 ?_
  simp only [e3, some_bind]
  exact Ev.now _
 ·by_cases c1 : x = 1
  ·refine ⟨w, h, cs ++ [1], i2, s2, Ev.bind e1 ?_, by simp; omega⟩
   simp only [e2, some_bind, List.nil_append, List.length_nil]
   exact Ev.ifn c0 (Ev.ifp c1 (Ev.ifp (by omega) (Ev.ifp (by omega) (Ev.now _))))
  ·by_cases c2 : x = 2
   ·obtain ⟨y, i3, s3, e3, hi3, _⟩ := l1Int_ok b i2 s2 [(-1), 5] hi2 hb (by simp) (by simp)
    refine ⟨w, h, cs.set 0 y, i3, s3, Ev.bind e1 ?_, by simp; omega⟩
    simp only [e2, some_bind]
    refine Ev.ifn c0 (Ev.ifn c1 (Ev.ifp c2 ?_))
    simp only [spec_l1Copy_f w h cs (by omega), some_bind, e3]
    exact Ev.ifp (by omega) (Ev.now _)
   ·refine ⟨w, h, cs, i2, s2, Ev.bind e1 ?_, by omega⟩
    simp only [e2, some_bind]
    exact Ev.ifn c0 (Ev.ifn c1 (Ev.ifn c2 (Ev.now _)))
theorem l3Sound_j1_ok (b : List Int) (i s w h : Int) (cs : List Int) (x : Bool) (hw : 2 ≤ w ∧ w ≤ 5) (hl : cs.length ≤ 100) (hx : x = true → w + 1 < (cs.length : Int)) : ∃ (w' h' : Int) (cs' : List Int) (i' s' : Int), Ev (fun k => spec_l3Sound.j1 k x b i s w h cs) (w', h', cs', i', s') ∧ cs'.length ≤ 100 := by
 cases x with
 | false =>
  refine ⟨w, h, cs, i, s, Ev.unroll ?_, hl⟩
  simp only [spec_l3Sound.j1]
  exact Ev.ifn (by decide) (Ev.now _)
 | true =>
  have h1 := hx rfl
  have e0 : wrap64 (w + 1) = w + 1 := wrap_id (by omega) (by omega)
  have hs := spec_Sound_f w h (cs.set (w + 1).toNat 0) (by rw [List.length_set]; omega)
  by_cases hb : soundOf w h (cs.set (w + 1).toNat 0) = true
  ·refine ⟨w, h, cs.set (w + 1).toNat 0, i, s, Ev.unroll ?_, by rw [List.length_set]; omega⟩
   simp only [spec_l3Sound.j1, e0, some_bind]
   exact Ev.ifp trivial (Ev.ifp (by omega) (Ev.ifp h1 (Ev.bind hs (Ev.ifp hb (Ev.now _)))))
  ·refine ⟨w, h, (cs.set (w + 1).toNat 0).set (w + 1).toNat 1, i, s, Ev.unroll ?_, by simp only [List.length_set]; omega⟩
   simp only [spec_l3Sound.j1, e0, some_bind]
   exact Ev.ifp trivial (Ev.ifp (by omega) (Ev.ifp h1 (Ev.bind hs (Ev.ifn hb (Ev.now _)))))
theorem l3Sound_l0_ok (b : List Int) (hb : b.length ≤ 1048576) (w h : Int) (hw : 2 ≤ w ∧ w ≤ 5) (hh : 2 ≤ h ∧ h ≤ 4) (n : Nat) (hn : (n : Int) = w * h) : ∀ (d j : Nat) (i s : Int) (cs : List Int), j + d = n → 0 ≤ i → cs.length = j →
  ∃ (w' h' : Int) (cs' : List Int) (i' s' : Int), Ev (fun k => spec_l3Sound.l0 k j b i s w h cs) (w', h', cs', i', s') ∧ cs'.length ≤ 100 := by
 have area : w * h ≤ 5 * 4 := Int.mul_le_mul hw.2 hh.2 (by omega) (by omega)
 have e0 : wrap64 (w * h) = n := by rw [wrap_id (by omega) (by omega)]; omega
 intro d
 induction d with
 | zero =>
  intro j i s cs e hi hl
  have fin : ∀ (x : Bool) (i s : Int), (x = true → w > 2 ∧ h > 2) → ∃ (w' h' : Int) (cs' : List Int) (i' s' : Int), Ev (fun k => spec_l3Sound.j1 k x b i s w h cs) (w', h', cs', i', s') ∧ cs'.length ≤ 100 := fun x i s hx => l3Sound_j1_ok b i s w h cs x hw (by omega) (fun hx' => by
   have h3 := hx hx'
   have : w * 3 ≤ w * h := Int.mul_le_mul_of_nonneg_left (by omega) (by omega)
   omega)
  by_cases c1 : w > 2
  ·by_cases c2 : h > 2
   ·obtain ⟨x, i1, s1, e1, hi1⟩ := l1Once_ok b i s 2 hi hb
    obtain ⟨w', h', cs', i', s', e2, h2⟩ := fin x i1 s1 (fun _ => ⟨c1, c2⟩)
    refine ⟨w', h', cs', i', s', Ev.unroll ?_, h2⟩
    simp only [spec_l3Sound.l0, e0, e1, some_bind]
    exact Ev.ifn (by omega) (Ev.ifp c1 (Ev.ifp c2 e2))
   ·obtain ⟨w', h', cs', i', s', e2, h2⟩ := fin false i s (fun h => by cases h)
    refine ⟨w', h', cs', i', s', Ev.unroll ?_, h2⟩
    simp only [spec_l3Sound.l0, e0]
    exact Ev.ifn (by omega) (Ev.ifp c1 (Ev.ifn c2 e2))
  ·obtain ⟨w', h', cs', i', s', e2, h2⟩ := fin false i s (fun h => by cases h)
   refine ⟨w', h', cs', i', s', Ev.unroll ?_, h2⟩
   simp only [spec_l3Sound.l0, e0]
   exact Ev.ifn (by omega) (Ev.ifn c1 e2)
 | succ d ih =>
  intro j i s cs e hi hl
  obtain ⟨x, i1, s1, e1, hi1, hx⟩ := l1Int_ok b i s [1, 1, 1, 2, 3, 4] hi hb (by decide) (by decide)
  obtain ⟨w', h', cs', i', s', e2, h2⟩ := ih (j + 1) i1 s1 (cs ++ [x]) (by omega) hi1 (by simp; omega)
  refine ⟨w', h', cs', i', s', Ev.unroll ?_, h2⟩
  simp only [spec_l3Sound.l0, e0, e1, some_bind]
  refine Ev.ifp (by omega) (Ev.ifp (by omega) ?_)
  rw [wrap_sc (by omega)]
  exact e2
theorem l3Sound_ok (b : List Int) (i s : Int) (hi : 0 ≤ i) (hb : b.length ≤ 1048576) : ∃ (w h : Int) (cs : List Int) (i' s' : Int), Ev (fun k => spec_l3Sound.f k b i s) (w, h, cs, i', s') ∧ cs.length ≤ 100 := by
 unfold spec_l3Sound.f
 obtain ⟨w, h, cs, i1, s1, e1, hd, hi1⟩ := l1Floor_ok b i s hi hb
 have hl := hd.len
 have hs := spec_Sound_f w h cs (by omega)
 by_cases hso : soundOf w h cs = true
 ·exact ⟨w, h, cs, i1, s1, Ev.bind e1 (Ev.bind hs (Ev.ifp hso (Ev.now _))), by omega⟩
 ·obtain ⟨x, i2, s2, e2, hi2, x0, x1, _⟩ := l1Below_ok b i1 s1 4 hi1 hb
  obtain ⟨y, i3, s3, e3, hi3, y0, y1, _⟩ := l1Below_ok b i2 s2 3 hi2 hb
  have x1 := x1 (by omega)
  have y1 := y1 (by omega)
  have area0 : 0 ≤ (2 + x) * (2 + y) := Int.mul_nonneg (by omega) (by omega)
  obtain ⟨w', h', cs', i', s', e4, h4⟩ := l3Sound_l0_ok b hb (2 + x) (2 + y) (by omega) (by omega) ((2 + x) * (2 + y)).toNat (by omega) ((2 + x) * (2 + y)).toNat 0 i3 s3 [] (by omega) hi3 rfl
  refine ⟨w', h', cs', i', s', Ev.bind e1 (Ev.bind hs (Ev.ifn hso ?_)), h4⟩
  simp only [e2, some_bind, e3, wrap_id (x := 2 + x) (by omega) (by omega), wrap_id (x := 2 + y) (by omega) (by omega)]
  exact e4
theorem DrawSound_ok (b : List Int) (hb : b.length ≤ 1048576) : ∃ (w h : Int) (cs : List Int), Ev (fun k => spec_DrawSound.f k b) (w, h, cs) ∧ cs.length ≤ 100 := by
 unfold spec_DrawSound.f
 obtain ⟨s, e0⟩ := l1New_ok b hb
 obtain ⟨x, i1, s1, e1, hi1⟩ := l1Once_ok b 0 s 2 (by omega) hb
 cases x with
 | true =>
  obtain ⟨w, h, cs, i2, s2, e2, h2⟩ := l3Sound_ok b i1 s1 hi1 hb
  refine ⟨w, h, cs, Ev.bind e0 ?_, h2⟩
  simp only [e1, some_bind]
  exact Ev.ifp trivial (Ev.bind e2 (Ev.now _))
 | false =>
  obtain ⟨w, h, cs, i2, s2, e2, h2⟩ := l1FloorAny_ok b i1 s1 hi1 hb
  refine ⟨w, h, cs, Ev.bind e0 ?_, h2⟩
  simp only [e1, some_bind]
  exact Ev.ifn (by decide) (Ev.bind e2 (Ev.now _))

def stepB (a b c d : Int) : Bool := (decide (c = a) && decide (d = b)) || (decide (c = b) && decide (d = a))
def nbX (w h : Int) (cs : List Int) (a b c : Int) : List Int := (nbF w h cs c).filter (fun d => !stepB a b c d)
theorem rdB_set {xs : List Bool} {v : Int} (h0 : 0 ≤ v) (h1 : v < (xs.length : Int)) {i : Int} (hi : 0 ≤ i) : rdOf false (xs.set v.toNat true) i = if i = v then true else rdOf false xs i := by
 unfold rdOf
 rw [List.getD_eq_getElem?_getD, List.getD_eq_getElem?_getD, List.getElem?_set]
 by_cases h : i = v
 ·subst h
  rw [if_pos rfl, if_pos rfl, if_pos (by omega)]; rfl
 ·rw [if_neg (by omega), if_neg h]
def freeN (met : List Bool) : Nat := met.countP (fun x => !x)
theorem freeN_set {met : List Bool} {v : Int} (h0 : 0 ≤ v) (h1 : v < (met.length : Int)) (h : rdOf false met v ≠ true) : freeN (met.set v.toNat true) + 1 = freeN met := by
 unfold freeN
 have h2 : v.toNat < met.length := by omega
 unfold rdOf at h
 rw [getD_at h2] at h
 replace h : met[v.toNat] = false := by simpa using h
 have h4 : 0 < met.countP (fun x => !x) := List.countP_pos_iff.2 ⟨met[v.toNat], List.getElem_mem h2, by rw [h]; rfl⟩
 rw [List.countP_set h2, h]
 simp
 omega
structure Mid (nb : Int → List Int) (a : Int) (n : Nat) (met : List Bool) (pend : List Int) (x : Int) (seen : List Int) : Prop where
 len : met.length = n
 sound : ∀ c : Int, 0 ≤ c → c < n → rdOf false met c = true → Reach nb yes a c
 start : rdOf false met a = true
 pin : ∀ c ∈ pend, 0 ≤ c ∧ c < n ∧ rdOf false met c = true
 closed : ∀ c : Int, 0 ≤ c → c < n → rdOf false met c = true → c ∈ pend ∨ c = x ∨ ∀ d ∈ nb c, rdOf false met d = true
 done : ∀ d ∈ nb x, d ∈ seen → rdOf false met d = true
theorem Mid.skip {nb : Int → List Int} {a : Int} {n : Nat} {met : List Bool} {pend : List Int} {x d : Int} {seen : List Int} (M : Mid nb a n met pend x seen) (h : d ∈ nb x → rdOf false met d = true) : Mid nb a n met pend x (seen ++ [d]) :=
 ⟨M.len, M.sound, M.start, M.pin, M.closed, fun e he hs => by
  rcases List.mem_append.1 hs with h1 | h1
  ·exact M.done e he h1
  ·rw [List.mem_singleton] at h1; subst h1; exact h he⟩
theorem Mid.push {nb : Int → List Int} {a : Int} {n : Nat} {met : List Bool} {pend : List Int} {x d : Int} {seen : List Int} (M : Mid nb a n met pend x seen) (a0 : 0 ≤ a) (x0 : 0 ≤ x) (x1 : x < n) (xm : rdOf false met x = true) (d0 : 0 ≤ d) (d1 : d < n) (hd : d ∈ nb x) (hin : ∀ c : Int, ∀ e ∈ nb c, 0 ≤ c → c < n → 0 ≤ e) : Mid nb a n (met.set d.toNat true) (pend ++ [d]) x (seen ++ [d]) := by
 have hl : d < (met.length : Int) := by rw [M.len]; exact d1
 have up : ∀ c : Int, 0 ≤ c → rdOf false met c = true → rdOf false (met.set d.toNat true) c = true := fun c c0 h => by
  rw [rdB_set d0 hl c0]; split
  ·rfl
  ·exact h
 have self : rdOf false (met.set d.toNat true) d = true := by rw [rdB_set d0 hl d0, if_pos rfl]
 refine ⟨by rw [List.length_set]; exact M.len, fun c c0 c1 h => ?_, up a a0 M.start, fun c hc => ?_, fun c c0 c1 h => ?_, fun e he hs => ?_⟩
 ·rw [rdB_set d0 hl c0] at h
  by_cases hcd : c = d
  ·subst hcd
   obtain ⟨k, wk⟩ := M.sound x x0 x1 xm
   exact ⟨k + 1, .snoc wk rfl hd⟩
  ·rw [if_neg hcd] at h; exact M.sound c c0 c1 h
 ·rcases List.mem_append.1 hc with h1 | h1
  ·have := M.pin c h1
   exact ⟨this.1, this.2.1, up c this.1 this.2.2⟩
  ·rw [List.mem_singleton] at h1; subst h1; exact ⟨d0, d1, self⟩
 ·rw [rdB_set d0 hl c0] at h
  by_cases hcd : c = d
  ·exact .inl (List.mem_append.2 (.inr (List.mem_singleton.2 hcd)))
  ·rw [if_neg hcd] at h
   rcases M.closed c c0 c1 h with h1 | h1 | h1
   ·exact .inl (List.mem_append.2 (.inl h1))
   ·exact .inr (.inl h1)
   ·exact .inr (.inr fun e he => up e (hin c e he c0 c1) (h1 e he))
 ·rcases List.mem_append.1 hs with h1 | h1
  ·exact up e (hin x e he x0 x1) (M.done e he h1)
  ·rw [List.mem_singleton] at h1; subst h1; exact self
theorem Mid.next {nb : Int → List Int} {a : Int} {n : Nat} {met : List Bool} {pend : List Int} {x : Int} {seen : List Int} (M : Mid nb a n met pend x seen) (h : ∀ d ∈ nb x, d ∈ seen) : Mid nb a n met pend (-1) [] :=
 ⟨M.len, M.sound, M.start, M.pin, fun c c0 c1 hc => by
  rcases M.closed c c0 c1 hc with h1 | h1 | h1
  ·exact .inl h1
  ·subst h1; exact .inr (.inr fun d hd => M.done d hd (h d hd))
  ·exact .inr (.inr h1), fun d hd hs => by cases hs⟩
theorem Mid.take {nb : Int → List Int} {a : Int} {n : Nat} {met : List Bool} {x : Int} {rest : List Int} (M : Mid nb a n met (x :: rest) (-1) []) : Mid nb a n met rest x [] :=
 ⟨M.len, M.sound, M.start, fun c hc => M.pin c (List.mem_cons_of_mem _ hc), fun c c0 c1 hc => by
  rcases M.closed c c0 c1 hc with h1 | h1 | h1
  ·rcases List.mem_cons.1 h1 with h2 | h2
   ·exact .inr (.inl h2)
   ·exact .inl h2
  ·omega
  ·exact .inr (.inr h1), fun d _ hs => by cases hs⟩
theorem Mid.fin {nb : Int → List Int} {a : Int} {n : Nat} {met : List Bool} (M : Mid nb a n met [] (-1) []) (a0 : 0 ≤ a) (a1 : a < n) (hin : ∀ c : Int, ∀ e ∈ nb c, 0 ≤ c → c < n → 0 ≤ e ∧ e < n) {b : Int} (b0 : 0 ≤ b) (b1 : b < n) : rdOf false met b = true ↔ Reach nb yes a b := by
 refine ⟨M.sound b b0 b1, fun hr => ?_⟩
 have := Reach.stay (P := fun c => (0 ≤ c ∧ c < n) ∧ rdOf false met c = true) ⟨⟨a0, a1⟩, M.start⟩ (fun c d hc hd => ?_) hr
 ·exact this.2
 ·refine ⟨hin c d hd hc.1.1 hc.1.2, ?_⟩
  rcases M.closed c hc.1.1 hc.1.2 hc.2 with h1 | h1 | h1
  ·cases h1
  ·have := hc.1.1; omega
  ·exact h1 d hd

def WayIs (w h : Int) (cs : List Int) (a b : Int) (m : Bool) : Prop := m = true ↔ Reach (nbX w h cs a b) yes a b
theorem nbX_in {w h : Int} {cs : List Int} (hf : floorOk w h cs = true) (a b : Int) : ∀ c : Int, ∀ e ∈ nbX w h cs a b c, 0 ≤ c → c < (cs.length : Int) → 0 ≤ e ∧ e < (cs.length : Int) := fun c e he c0 c1 => nbF_in hf c c0 c1 e (List.mem_filter.1 he).1
theorem mem_nbX {w h : Int} {cs : List Int} {a b c d : Int} (hd : d ∈ nbF w h cs c) : d ∈ nbX w h cs a b c ↔ stepB a b c d = false := by
 unfold nbX
 rw [List.mem_filter]
 simp [hd]
theorem take_at {l : List Int} {j : Nat} (hj : j < l.length) : l.take (j + 1) = l.take j ++ [l.getD j 0] := by rw [getD_at hj, List.take_succ_eq_append_getElem hj]
theorem impl_without_l1 (w h : Int) (cs : List Int) (hf : floorOk w h cs = true) (a b : Int) (a0 : 0 ≤ a) (x : Int) (x0 : 0 ≤ x) (x1 : x < (cs.length : Int)) (s : Nat) (hs : s ≤ cs.length)
  (K : ∀ met todo, Mid (nbX w h cs a b) a cs.length met todo (-1) [] → todo.length + freeN met ≤ s → ∃ m, Ev (fun k => impl_without.l0 k a b met todo w h cs) m ∧ WayIs w h cs a b m) :
  ∀ (d j : Nat) (met : List Bool) (todo : List Int), j + d = (nbF w h cs x).length → rdOf false met x = true → Mid (nbX w h cs a b) a cs.length met todo x ((nbF w h cs x).take j) → todo.length + freeN met ≤ s → ∃ m, Ev (fun k => impl_without.l1 k a b met todo x (nbF w h cs x) (nbF w h cs x).length j w h cs) m ∧ WayIs w h cs a b m
 | 0, j, met, todo, e, xm, M, hz => by
   obtain ⟨m, em, hm⟩ := K met todo (M.next (fun d hd => by rw [List.take_of_length_le (by omega)]; exact (List.mem_filter.1 hd).1)) hz
   refine ⟨m, Ev.unroll ?_, hm⟩
   simp only [impl_without.l1]
   exact Ev.ifn (by omega) em
 | d + 1, j, met, todo, e, xm, M, hz => by
   have ha := floorOk_area hf
   have hj : j < (nbF w h cs x).length := by omega
   have hjm : (nbF w h cs x).getD j 0 ∈ nbF w h cs x := by rw [getD_at hj]; exact List.getElem_mem hj
   have hr := nbF_in hf x x0 x1 _ hjm
   have hl4 : (nbF w h cs x).length ≤ 4 := nearL_le _ _ _ _ _
   have w1 : wrap64 ((j : Int) + 1) = ((j + 1 : Nat) : Int) := wrap_sc (by omega)
   have hml := M.len
   generalize hv : (nbF w h cs x).getD j 0 = v at hjm hr
   have ht : (nbF w h cs x).take (j + 1) = (nbF w h cs x).take j ++ [v] := by rw [take_at hj, hv]
   by_cases hp : rdOf false met v = true ∨ stepB a b x v = true
   ·obtain ⟨m, em, hm⟩ := impl_without_l1 w h cs hf a b a0 x x0 x1 s hs K d (j + 1) met todo (by omega) xm (by rw [ht]; exact M.skip (fun h9 => hp.elim id (fun h8 => by rw [(mem_nbX hjm).1 h9] at h8; cases h8))) hz
    refine ⟨m, Ev.unroll ?_, hm⟩
    simp only [impl_without.l1, rd_nat', hv, w1]
    refine Ev.ifp (by omega) (Ev.ifp (by omega) (Ev.ifp (by omega) (Ev.ifp (by omega) (Ev.ifp (by omega) ?_))))
    refine ev_ite' (fun _ => em) (fun g1 => ?_)
    have g2 : stepB a b x v = true := hp.resolve_left g1
    unfold stepB at g2
    simp only [Bool.or_eq_true, Bool.and_eq_true, decide_eq_true_eq] at g2
    refine ev_ite' (fun h1 => ev_ite' (fun h2 => em) (fun h2 => ev_ite' (fun h3 => ev_ite' (fun h4 => em) (fun h4 => ?_)) (fun h3 => ?_))) (fun h1 => ev_ite' (fun h3 => ev_ite' (fun h4 => em) (fun h4 => ?_)) (fun h3 => ?_))
    all_goals (exfalso; omega)
   ·have g1 : ¬ rdOf false met v = true := fun q => hp (.inl q)
    have g2 : ¬ stepB a b x v = true := fun q => hp (.inr q)
    have hfn := freeN_set hr.1 (by rw [hml]; exact hr.2) g1
    have hvx : v ∈ nbX w h cs a b x := (mem_nbX hjm).2 (by simpa using g2)
    have hne : ¬ x = v := fun q => g1 (by rw [← q]; exact xm)
    obtain ⟨m, em, hm⟩ := impl_without_l1 w h cs hf a b a0 x x0 x1 s hs K d (j + 1) (met.set v.toNat true) (todo ++ [v]) (by omega) (by rw [rdB_set hr.1 (by rw [hml]; exact hr.2) x0, if_neg hne]; exact xm) (by rw [ht]; exact M.push a0 x0 x1 xm hr.1 hr.2 hvx (fun c e he c0 c1 => (nbX_in hf a b c e he c0 c1).1)) (by rw [List.length_append]; simp only [List.length_cons, List.length_nil]; omega)
    refine ⟨m, Ev.unroll ?_, hm⟩
    simp only [impl_without.l1, rd_nat', hv, w1]
    refine Ev.ifp (by omega) (Ev.ifp (by omega) (Ev.ifp (by omega) (Ev.ifp (by omega) (Ev.ifp (by omega) (Ev.ifn g1 ?_)))))
    unfold stepB at g2
    simp only [Bool.or_eq_true, Bool.and_eq_true, decide_eq_true_eq] at g2
    have hb : todo.length < 17592186044416 := by omega
    refine ev_ite' (fun h1 => ev_ite' (fun h2 => ?_) (fun h2 => ev_ite' (fun h3 => ev_ite' (fun h4 => ?_) (fun h4 => Ev.ifp hb em)) (fun h3 => Ev.ifp hb em))) (fun h1 => ev_ite' (fun h3 => ev_ite' (fun h4 => ?_) (fun h4 => Ev.ifp hb em)) (fun h3 => Ev.ifp hb em))
    all_goals (exfalso; omega)
theorem impl_without_l0 (w h : Int) (cs : List Int) (hf : floorOk w h cs = true) (a b : Int) (a0 : 0 ≤ a) (a1 : a < (cs.length : Int)) (b0 : 0 ≤ b) (b1 : b < (cs.length : Int)) : ∀ (s : Nat) (met : List Bool) (todo : List Int), s ≤ cs.length → Mid (nbX w h cs a b) a cs.length met todo (-1) [] → todo.length + freeN met ≤ s → ∃ m, Ev (fun k => impl_without.l0 k a b met todo w h cs) m ∧ WayIs w h cs a b m
 | s, met, [], hs, M, hz => by
   refine ⟨rdOf false met b, Ev.unroll ?_, M.fin a0 a1 (nbX_in hf a b) b0 b1⟩
   have hml := M.len
   simp only [impl_without.l0]
   exact Ev.ifn (by simp) (Ev.ifp b0 (Ev.ifp (by omega) (Ev.now _)))
 | 0, met, x :: rest, hs, M, hz => by simp at hz
 | s + 1, met, x :: rest, hs, M, hz => by
   have hx := M.pin x (by simp)
   have fx := fitsAt hf hx.1 hx.2.1
   obtain ⟨m, em, hm⟩ := impl_without_l1 w h cs hf a b a0 x hx.1 hx.2.1 s (by omega) (fun met todo M2 h2 => impl_without_l0 w h cs hf a b a0 a1 b0 b1 s met todo (by omega) M2 h2) (nbF w h cs x).length 0 met rest (by omega) hx.2.2 (by rw [List.take_zero]; exact M.take) (by rw [List.length_cons] at hz; omega)
   refine ⟨m, Ev.unroll ?_, hm⟩
   simp only [impl_without.l0]
   refine Ev.ifp (by simp <;> omega) (Ev.ifp (by simp <;> omega) (Ev.ifp (by simp <;> omega) ?_))
   exact Ev.bind (impl_near_f w h cs x false fx.1 fx.2) em
theorem start_mid {w h : Int} {cs : List Int} {a b : Int} (a0 : 0 ≤ a) (a1 : a < (cs.length : Int)) : Mid (nbX w h cs a b) a cs.length ((List.replicate cs.length false).set a.toNat true) [a] (-1) [] ∧ 1 + freeN ((List.replicate cs.length false).set a.toNat true) ≤ cs.length := by
 have hl : a < ((List.replicate cs.length false).length : Int) := by rw [List.length_replicate]; exact a1
 have no : ∀ c : Int, rdOf false (List.replicate cs.length false) c = false := fun c => by
  unfold rdOf
  rw [List.getD_eq_getElem?_getD, List.getElem?_replicate]
  split <;> rfl
 have hr : ∀ c : Int, 0 ≤ c → rdOf false ((List.replicate cs.length false).set a.toNat true) c = true → c = a := fun c c0 hc => by
  rw [rdB_set a0 hl c0, no] at hc
  by_cases h : c = a
  ·exact h
  ·rw [if_neg h] at hc; cases hc
 have hs : rdOf false ((List.replicate cs.length false).set a.toNat true) a = true := by rw [rdB_set a0 hl a0, if_pos rfl]
 refine ⟨⟨by simp, fun c c0 c1 hc => by rw [hr c c0 hc]; exact Reach.refl _ _ _, hs, fun c hc => ?_, fun c c0 c1 hc => .inl (List.mem_singleton.2 (hr c c0 hc)), fun d _ h => by cases h⟩, ?_⟩
 ·rw [List.mem_singleton] at hc; subst hc; exact ⟨a0, a1, hs⟩
 ·have h1 := freeN_set a0 hl (show ¬ rdOf false (List.replicate cs.length false) a = true by rw [no]; decide)
  have h2 : freeN (List.replicate cs.length false) ≤ (List.replicate cs.length false).length := List.countP_le_length
  rw [List.length_replicate] at h2
  omega
theorem impl_without_f (w h : Int) (cs : List Int) (hf : floorOk w h cs = true) (a b : Int) (a0 : 0 ≤ a) (a1 : a < (cs.length : Int)) (b0 : 0 ≤ b) (b1 : b < (cs.length : Int)) : ∃ m, Ev (fun k => impl_without.f k w h cs a b) m ∧ WayIs w h cs a b m := by
 have ha := floorOk_area hf
 obtain ⟨M, hz⟩ := start_mid (w := w) (h := h) (b := b) a0 a1
 obtain ⟨m, em, hm⟩ := impl_without_l0 w h cs hf a b a0 a1 b0 b1 cs.length _ [a] (Nat.le_refl _) M (by simpa using hz)
 refine ⟨m, ?_, hm⟩
 unfold impl_without.f
 simp only [Int.toNat_natCast, some_bind, List.length_replicate]
 exact Ev.ifp (by omega) (Ev.ifp (by omega) (Ev.ifp a0 (Ev.ifp a1 em)))

theorem spec_l3Apart_l1 (w h : Int) (cs : List Int) (hf : floorOk w h cs = true) (a b : Int) (a0 : 0 ≤ a) (x : Int) (x0 : 0 ≤ x) (x1 : x < (cs.length : Int)) (i : Nat)
  (K : ∀ met q, Mid (nbX w h cs a b) a cs.length met (q.drop (i + 1)) (-1) [] → i + 1 ≤ q.length → q.length + freeN met ≤ cs.length → ∃ m, Ev (fun k => spec_l3Apart.l0 k a b met q ((i + 1 : Nat) : Int) w h cs) (!m) ∧ WayIs w h cs a b m) :
  ∀ (d j : Nat) (met : List Bool) (q : List Int), j + d = (nbF w h cs x).length → i < q.length → q.getD i 0 = x → rdOf false met x = true → Mid (nbX w h cs a b) a cs.length met (q.drop (i + 1)) x ((nbF w h cs x).take j) → q.length + freeN met ≤ cs.length → ∃ m, Ev (fun k => spec_l3Apart.l1 k a b met q i (nbF w h cs x) j w h cs) (!m) ∧ WayIs w h cs a b m
 | 0, j, met, q, e, iq, qx, xm, M, hz => by
   have ha := floorOk_area hf
   obtain ⟨m, em, hm⟩ := K met q (M.next (fun d hd => by rw [List.take_of_length_le (by omega)]; exact (List.mem_filter.1 hd).1)) (by omega) hz
   refine ⟨m, Ev.unroll ?_, hm⟩
   have w2 : wrap64 ((i : Int) + 1) = ((i + 1 : Nat) : Int) := wrap_sc (by omega)
   simp only [spec_l3Apart.l1, w2]
   exact Ev.ifn (by omega) em
 | d + 1, j, met, q, e, iq, qx, xm, M, hz => by
   have ha := floorOk_area hf
   have hj : j < (nbF w h cs x).length := by omega
   have hjm : (nbF w h cs x).getD j 0 ∈ nbF w h cs x := by rw [getD_at hj]; exact List.getElem_mem hj
   have hr := nbF_in hf x x0 x1 _ hjm
   have hl4 : (nbF w h cs x).length ≤ 4 := nearL_le _ _ _ _ _
   have w1 : wrap64 ((j : Int) + 1) = ((j + 1 : Nat) : Int) := wrap_sc (by omega)
   have hml := M.len
   generalize hv : (nbF w h cs x).getD j 0 = v at hjm hr
   have ht : (nbF w h cs x).take (j + 1) = (nbF w h cs x).take j ++ [v] := by rw [take_at hj, hv]
   have c1 : (j : Int) < ((nbF w h cs x).length : Int) := Int.ofNat_lt.2 hj
   have c2 : (0 : Int) ≤ (i : Int) := Int.natCast_nonneg i
   have c3 : (i : Int) < (q.length : Int) := Int.ofNat_lt.2 iq
   have c4 : (0 : Int) ≤ (j : Int) := Int.natCast_nonneg j
   have c5 : v < (met.length : Int) := by rw [hml]; exact hr.2
   by_cases hp : rdOf false met v = true ∨ stepB a b x v = true
   ·obtain ⟨m, em, hm⟩ := spec_l3Apart_l1 w h cs hf a b a0 x x0 x1 i K d (j + 1) met q (by omega) iq qx xm (by rw [ht]; exact M.skip (fun h9 => hp.elim id (fun h8 => by rw [(mem_nbX hjm).1 h9] at h8; cases h8))) hz
    refine ⟨m, Ev.unroll ?_, hm⟩
    simp only [spec_l3Apart.l1, rd_nat', hv, w1, qx, if_pos c1, if_pos c2, if_pos c3, if_pos c4, if_pos hr.1, if_pos c5]
    rcases hp with g1 | g2
    ·simp only [if_pos g1, ite_self]; exact em
    ·unfold stepB at g2
     simp only [Bool.or_eq_true, Bool.and_eq_true, decide_eq_true_eq] at g2
     by_cases h1 : x = a
     ·by_cases h2 : v = b
      ·simp only [if_pos h1, if_pos h2]; exact em
      ·simp only [if_pos h1, if_neg h2, if_pos (show x = b by omega), if_pos (show v = a by omega)]; exact em
     ·simp only [if_neg h1, if_pos (show x = b by omega), if_pos (show v = a by omega)]; exact em
   ·have g1 : ¬ rdOf false met v = true := fun q => hp (.inl q)
    have g2 : ¬ stepB a b x v = true := fun q => hp (.inr q)
    have hfn := freeN_set hr.1 (by rw [hml]; exact hr.2) g1
    have hvx : v ∈ nbX w h cs a b x := (mem_nbX hjm).2 (by simpa using g2)
    have hne : ¬ x = v := fun q => g1 (by rw [← q]; exact xm)
    have hq1 : (q ++ [v]).length = q.length + 1 := by simp
    obtain ⟨m, em, hm⟩ := spec_l3Apart_l1 w h cs hf a b a0 x x0 x1 i K d (j + 1) (met.set v.toNat true) (q ++ [v]) (by omega) (by omega) (by rw [← qx, List.getD_eq_getElem?_getD, List.getD_eq_getElem?_getD, List.getElem?_append_left iq]) (by rw [rdB_set hr.1 (by rw [hml]; exact hr.2) x0, if_neg hne]; exact xm) (by rw [ht, List.drop_append_of_le_length (by omega)]; exact M.push a0 x0 x1 xm hr.1 hr.2 hvx (fun c e he c0 c1 => (nbX_in hf a b c e he c0 c1).1)) (by omega)
    refine ⟨m, Ev.unroll ?_, hm⟩
    simp only [spec_l3Apart.l1, rd_nat', hv, w1, qx, if_pos c1, if_pos c2, if_pos c3, if_pos c4, if_pos hr.1, if_pos c5]
    have hb : q.length < 17592186044416 := by omega
    unfold stepB at g2
    simp only [Bool.or_eq_true, Bool.and_eq_true, decide_eq_true_eq] at g2
    simp only [if_neg g1, if_pos hb]
    by_cases h1 : x = a
    ·by_cases h3 : x = b
     ·simp only [if_pos h1, if_neg (show ¬ v = b by omega), if_pos h3, if_neg (show ¬ v = a by omega)]; exact em
     ·simp only [if_pos h1, if_neg (show ¬ v = b by omega), if_neg h3]; exact em
    ·by_cases h3 : x = b
     ·simp only [if_neg h1, if_pos h3, if_neg (show ¬ v = a by omega)]; exact em
     ·simp only [if_neg h1, if_neg h3]; exact em
theorem spec_l3Apart_l0 (w h : Int) (cs : List Int) (hf : floorOk w h cs = true) (a b : Int) (a0 : 0 ≤ a) (a1 : a < (cs.length : Int)) (b0 : 0 ≤ b) (b1 : b < (cs.length : Int)) : ∀ (s i : Nat) (met : List Bool) (q : List Int), i + s = cs.length → i ≤ q.length → Mid (nbX w h cs a b) a cs.length met (q.drop i) (-1) [] → q.length + freeN met ≤ cs.length → ∃ m, Ev (fun k => spec_l3Apart.l0 k a b met q i w h cs) (!m) ∧ WayIs w h cs a b m := by
 intro s
 induction s with
 | zero =>
  intro i met q e iq M hz
  rw [drop_end (by omega)] at M
  refine ⟨rdOf false met b, Ev.unroll ?_, M.fin a0 a1 (nbX_in hf a b) b0 b1⟩
  have hml := M.len
  simp only [spec_l3Apart.l0]
  exact Ev.ifn (by omega) (Ev.ifp b0 (Ev.ifp (by omega) (Ev.now _)))
 | succ s ih =>
  intro i met q e iq M hz
  by_cases hi : i < q.length
  ·have hdc := drop_cons hi
   rw [hdc] at M
   have hx := M.pin q[i] (List.mem_cons_self)
   have fx := fitsAt hf hx.1 hx.2.1
   have hg : q.getD i 0 = q[i] := getD_at hi
   obtain ⟨m, em, hm⟩ := spec_l3Apart_l1 w h cs hf a b a0 q[i] hx.1 hx.2.1 i (fun met q M2 h2 h3 => ih (i + 1) met q (by omega) h2 M2 h3) (nbF w h cs q[i]).length 0 met q (by omega) hi hg hx.2.2 (by rw [List.take_zero]; exact M.take) hz
   refine ⟨m, Ev.unroll ?_, hm⟩
   simp only [spec_l3Apart.l0, rd_nat', hg]
   exact Ev.ifp (by omega) (Ev.ifp (by omega) (Ev.bind (spec_l1Near_f w h cs q[i] false fx.1 fx.2) em))
  ·rw [drop_end (by omega)] at M
   refine ⟨rdOf false met b, Ev.unroll ?_, M.fin a0 a1 (nbX_in hf a b) b0 b1⟩
   have hml := M.len
   simp only [spec_l3Apart.l0]
   exact Ev.ifn (by omega) (Ev.ifp b0 (Ev.ifp (by omega) (Ev.now _)))
theorem spec_l3Apart_f (w h : Int) (cs : List Int) (hf : floorOk w h cs = true) (a b : Int) (a0 : 0 ≤ a) (a1 : a < (cs.length : Int)) (b0 : 0 ≤ b) (b1 : b < (cs.length : Int)) : ∃ m, Ev (fun k => spec_l3Apart.f k w h cs a b) (!m) ∧ WayIs w h cs a b m := by
 have ha := floorOk_area hf
 obtain ⟨M, hz⟩ := start_mid (w := w) (h := h) (b := b) a0 a1
 obtain ⟨m, em, hm⟩ := spec_l3Apart_l0 w h cs hf a b a0 a1 b0 b1 cs.length 0 _ [a] (by omega) (by simp) (by rw [List.drop_zero]; exact M) (by simpa using hz)
 refine ⟨m, ?_, hm⟩
 unfold spec_l3Apart.f
 simp only [Int.toNat_natCast, some_bind, List.length_replicate]
 exact Ev.ifp (by omega) (Ev.ifp (by omega) (Ev.ifp a0 (Ev.ifp a1 em)))
theorem apart_both (w h : Int) (cs : List Int) (hf : floorOk w h cs = true) (a b : Int) (a0 : 0 ≤ a) (a1 : a < (cs.length : Int)) (b0 : 0 ≤ b) (b1 : b < (cs.length : Int)) : ∃ m, Ev (fun k => spec_l3Apart.f k w h cs a b) (!m) ∧ Ev (fun k => impl_without.f k w h cs a b) m ∧ WayIs w h cs a b m := by
 obtain ⟨m, e1, h1⟩ := spec_l3Apart_f w h cs hf a b a0 a1 b0 b1
 obtain ⟨m', e2, h2⟩ := impl_without_f w h cs hf a b a0 a1 b0 b1
 have e : m' = m := by rw [Bool.eq_iff_iff]; exact Iff.trans h2 h1.symm
 subst e
 exact ⟨m', e1, e2, h1⟩

theorem openN_set {cs : List Int} {p : Int} (hp : Cell cs p) : openN (cs.set p.toNat 0) + 1 = openN cs := by
 unfold openN
 have h2 : p.toNat < cs.length := by have := hp.1; have := hp.2.1; omega
 have h := hp.2.2
 unfold rd at h
 rw [getD_at h2] at h
 have h4 : 0 < cs.countP (fun x => decide (x ≠ 0)) := List.countP_pos_iff.2 ⟨cs[p.toNat], List.getElem_mem h2, by simpa using h⟩
 rw [List.countP_set h2]
 simp [h]
 have : cs.countP (fun x => decide (x ≠ 0)) = cs.countP (fun x => !decide (x = 0)) := by congr 1; funext x; simp
 omega
theorem cell_set {cs : List Int} {p c : Int} (hp : Cell cs p) : Cell (cs.set p.toNat 0) c ↔ Cell cs c ∧ c ≠ p := by
 unfold Cell
 rw [List.length_set]
 constructor
 ·rintro ⟨h0, h1, h2⟩
  rw [rd_set hp.1 hp.2.1 h0] at h2
  by_cases e : c = p
  ·rw [if_pos e] at h2; exact absurd rfl h2
  ·rw [if_neg e] at h2; exact ⟨⟨h0, h1, h2⟩, e⟩
 ·rintro ⟨⟨h0, h1, h2⟩, e⟩
  exact ⟨h0, h1, by rw [rd_set hp.1 hp.2.1 h0, if_neg e]; exact h2⟩
theorem sound_facts {w h : Int} {cs : List Int} (hs : soundOf w h cs = true) : togetherOf w h cs = true ∧ 4 ≤ openN cs ∧ ∀ p, Cell cs p → cutB w h cs p = false := by
 unfold soundOf at hs
 simp only [Bool.and_eq_true, decide_eq_true_eq] at hs
 refine ⟨hs.1, hs.2.1, fun p hp => ?_⟩
 have h3 := hs.2.2
 have hf := (together_all hs.1).1
 unfold cutsOf at h3
 rw [if_pos hf] at h3
 have h4 := List.length_eq_zero_iff.1 h3
 cases hc : cutB w h cs p with
 | false => rfl
 | true =>
  have h5 : p ∈ filtFrom cs.length 0 (isCut w h cs) := by
   rw [mem_filtFrom]
   refine ⟨p.toNat, by omega, by have := hp.2.1; have := hp.1; omega, ?_, by have := hp.1; omega⟩
   unfold isCut
   rw [Int.toNat_of_nonneg hp.1, hc, Bool.and_true]
   exact decide_eq_true hp.2.2
  rw [h4] at h5
  cases h5
theorem sound_less {w h : Int} {cs : List Int} (hs : soundOf w h cs = true) {p : Int} (hp : Cell cs p) : togetherOf w h (cs.set p.toNat 0) = true := by
 obtain ⟨ht, h4, hc⟩ := sound_facts hs
 obtain ⟨hf, hall⟩ := together_all ht
 have hn := openN_set hp
 have hg := floorOk_set hf p.toNat
 refine together_of hg (by omega) (fun a b ha hb => ?_)
 have ha2 := (cell_set hp).1 ha
 have hb2 := (cell_set hp).1 hb
 match e : nbF w h cs p with
 | [] =>
  rcases reach_past' hf hp.1 hp.2.1 (hall p a hp ha2.1) with h1 | ⟨n, h1, _⟩
  ·exact absurd h1 ha2.2
  ·rw [e] at h1; cases h1
 | n0 :: t =>
  have hcp := hc p hp
  have hfar := cut_far hf hp e
  have near : ∀ c, Cell (cs.set p.toNat 0) c → Reach (nbF w h (cs.set p.toNat 0)) yes n0 c := fun c hc => by
   have hc2 := (cell_set hp).1 hc
   rcases reach_past' hf hp.1 hp.2.1 (hall p c hp hc2.1) with h1 | ⟨n, h1, _, h2⟩
   ·exact absurd h1 hc2.2
   ·refine Reach.trans ?_ h2
    refine Classical.byContradiction fun hno => ?_
    rw [hfar.2 ⟨n, h1, hno⟩] at hcp
    cases hcp
  have hn0 : Cell (cs.set p.toNat 0) n0 := by
   have hm : n0 ∈ nbF w h cs p := by rw [e]; exact List.mem_cons_self
   have hcell := (cell_next hf hp hm).1
   exact (cell_set hp).2 ⟨hcell, fun e2 => not_mem_self (fitsAt hf hp.1 hp.2.1).1 (by rw [e2] at hm; exact (mem_nearL.1 hm).1)⟩
  exact Reach.trans ((reach_back hg hn0 (near a ha)).2) (near b hb)
theorem way_off {w h : Int} {cs : List Int} (hf : floorOk w h cs = true) {p a b x : Int} (hp : Cell cs p) (hpab : p = a ∨ p = b) {c : Int} (hx : Cell (cs.set p.toNat 0) x) (hr : Reach (nbF w h (cs.set p.toNat 0)) yes x c) : Reach (nbX w h cs a b) yes x c := by
 obtain ⟨k, hw⟩ := hr
 have hg := floorOk_set hf p.toNat
 have key : ∀ {k : Nat} {c : Int}, Walk (nbF w h (cs.set p.toNat 0)) yes x k c → Cell (cs.set p.toNat 0) c ∧ Walk (nbX w h cs a b) yes x k c := by
  intro k c hw
  induction hw with
  | nil => exact ⟨hx, .nil⟩
  | snoc w' g h' ih =>
   have hc := (cell_next hg ih.1 h').1
   have hy := (cell_set hp).1 ih.1
   have hz := (cell_set hp).1 hc
   have h2 := ((nbF_set hf hp.1 hp.2.1 hy.1.1 hy.1.2.1).1 h').1
   refine ⟨hc, .snoc ih.2 g ((mem_nbX h2).2 ?_)⟩
   unfold stepB
   rcases hpab with rfl | rfl
   ·rw [decide_eq_false hy.2, decide_eq_false hz.2]; simp
   ·rw [decide_eq_false hy.2, decide_eq_false hz.2]; simp
 exact ⟨k, (key hw).2⟩
theorem third_cell {cs : List Int} (h4 : 4 ≤ openN cs) {a b : Int} (ha : Cell cs a) (hb : Cell cs b) (hab : a ≠ b) : ∃ c, Cell cs c ∧ c ≠ a ∧ c ≠ b := by
 have h1 := openN_set ha
 have hb2 := (cell_set ha).2 ⟨hb, fun e => hab e.symm⟩
 have h2 := openN_set hb2
 have h3 := first_cell (cs := (cs.set a.toNat 0).set b.toNat 0) (by omega)
 have h5 := (cell_set hb2).1 h3
 have h6 := (cell_set ha).1 h5.1
 exact ⟨_, h6.1, h6.2, h5.2⟩
theorem sound_way {w h : Int} {cs : List Int} (hs : soundOf w h cs = true) {a b : Int} (ha : Cell cs a) (hb : Cell cs b) (hab : a ≠ b) {m : Bool} (hm : WayIs w h cs a b m) : m = true := by
 obtain ⟨ht, h4, hc⟩ := sound_facts hs
 have hf := (together_all ht).1
 obtain ⟨c, hcc, hca, hcb⟩ := third_cell h4 ha hb hab
 have ta := (together_all (sound_less hs ha)).2
 have tb := (together_all (sound_less hs hb)).2
 have ca := (cell_set ha).2 ⟨hcc, hca⟩
 have cb := (cell_set hb).2 ⟨hcc, hcb⟩
 have ab := (cell_set hb).2 ⟨ha, hab⟩
 have ba := (cell_set ha).2 ⟨hb, fun e => hab e.symm⟩
 exact hm.2 (Reach.trans (way_off hf hb (.inr rfl) ab (tb a c ab cb)) (way_off hf ha (.inl rfl) ca (ta c b ca ba)))
theorem sound_bridges_l1 (w h : Int) (cs : List Int) (hs : soundOf w h cs = true) (hf : floorOk w h cs = true) (i : Nat) (hi : i < cs.length) (h0 : rd cs (i : Int) ≠ 0)
  (K : Ev (fun k => impl_Bridges.l0 k [] cs cs.length ((i + 1 : Nat) : Int) w h cs) ([] : List S71)) :
  ∀ (d j : Nat), j + d = (nbF w h cs i).length → Ev (fun k => impl_Bridges.l1 k [] i cs cs.length i (nbF w h cs i) (nbF w h cs i).length j w h cs) ([] : List S71)
 | 0, j, e => Ev.unroll (by
   have ha := floorOk_area hf
   have w1 : wrap64 ((i : Int) + 1) = ((i + 1 : Nat) : Int) := wrap_sc (by omega)
   simp only [impl_Bridges.l1, w1]; exact Ev.ifn (by omega) K)
 | d + 1, j, e => by
   have ha := floorOk_area hf
   have hl4 : (nbF w h cs i).length ≤ 4 := nearL_le _ _ _ _ _
   have hj : j < (nbF w h cs i).length := by omega
   have hjm : (nbF w h cs i).getD j 0 ∈ nbF w h cs i := by rw [getD_at hj]; exact List.getElem_mem hj
   have hr := nbF_in hf i (by omega) (by omega) _ hjm
   have w1 : wrap64 ((j : Int) + 1) = ((j + 1 : Nat) : Int) := wrap_sc (by omega)
   have hci : Cell cs (i : Int) := ⟨by omega, by omega, h0⟩
   have ih := sound_bridges_l1 w h cs hs hf i hi h0 K d (j + 1) (by omega)
   have hcv := (cell_next hf hci hjm).1
   generalize hv : (nbF w h cs i).getD j 0 = v at hjm hr hcv
   refine Ev.unroll ?_
   simp only [impl_Bridges.l1, rd_nat', hv, w1]
   refine Ev.ifp (by omega) (Ev.ifp (by omega) (Ev.ifp (by omega) ?_))
   by_cases hg : (i : Int) < v
   ·obtain ⟨m, s2, hm⟩ := impl_without_f w h cs hf i v (by omega) (by omega) hr.1 hr.2
    have := sound_way hs hci hcv (by omega) hm
    subst this
    exact Ev.ifp hg (Ev.bind s2 (Ev.ifp rfl ih))
   ·exact Ev.ifn hg ih
theorem sound_bridges_l0 (w h : Int) (cs : List Int) (hs : soundOf w h cs = true) (hf : floorOk w h cs = true) : ∀ (d i : Nat), i + d = cs.length → Ev (fun k => impl_Bridges.l0 k [] cs cs.length i w h cs) ([] : List S71)
 | 0, i, e => Ev.unroll (by simp only [impl_Bridges.l0]; exact Ev.ifn (by omega) (Ev.now _))
 | d + 1, i, e => by
   have ha := floorOk_area hf
   have hi : i < cs.length := by omega
   have fx := fitsAt hf (show (0 : Int) ≤ (i : Int) by omega) (show (i : Int) < (cs.length : Int) by omega)
   have w1 : wrap64 ((i : Int) + 1) = ((i + 1 : Nat) : Int) := wrap_sc (by omega)
   have ih := sound_bridges_l0 w h cs hs hf d (i + 1) (by omega)
   refine Ev.unroll ?_
   simp only [impl_Bridges.l0, w1]
   refine Ev.ifp (by omega) (Ev.ifp (by omega) (Ev.ifp (by omega) ?_))
   by_cases h0 : rd cs (i : Int) = 0
   ·exact Ev.ifp h0 ih
   ·exact Ev.ifn h0 (Ev.bind (impl_near_f w h cs i false fx.1 fx.2) (sound_bridges_l1 w h cs hs hf i hi h0 ih (nbF w h cs i).length 0 (by omega)))
theorem sound_bridges_f (w h : Int) (cs : List Int) (hs : soundOf w h cs = true) (hn : cs.length ≤ BIG) : Ev (fun k => impl_Bridges.f k w h cs) ([] : List S71) := by
 have hf := (together_all (sound_facts hs).1).1
 have s2 := impl_FloorOk_f w h cs hn
 rw [hf] at s2
 unfold impl_Bridges.f
 exact Ev.bind s2 (Ev.ifp rfl (sound_bridges_l0 w h cs hs hf cs.length 0 (by omega)))

theorem bridges_l1 (w h : Int) (cs : List Int) (hf : floorOk w h cs = true) (i : Nat) (hi : i < cs.length)
  (K : ∀ acc : List S71, acc.length ≤ 4 * (i + 1) → ∃ R, Ev (fun k => spec_Bridges.l0 k acc ((i + 1 : Nat) : Int) w h cs) R ∧ Ev (fun k => impl_Bridges.l0 k acc cs cs.length ((i + 1 : Nat) : Int) w h cs) R ∧ R.length ≤ 400) :
  ∀ (d j : Nat) (acc : List S71), j + d = (nbF w h cs i).length → acc.length ≤ 4 * i + j → ∃ R, Ev (fun k => spec_Bridges.l1 k acc i (nbF w h cs i) j w h cs) R ∧ Ev (fun k => impl_Bridges.l1 k acc i cs cs.length i (nbF w h cs i) (nbF w h cs i).length j w h cs) R ∧ R.length ≤ 400
 | 0, j, acc, e, hl => by
   have ha := floorOk_area hf
   have hl4 : (nbF w h cs i).length ≤ 4 := nearL_le _ _ _ _ _
   have w1 : wrap64 ((i : Int) + 1) = ((i + 1 : Nat) : Int) := wrap_sc (by omega)
   obtain ⟨R, e1, e2, hR⟩ := K acc (by omega)
   refine ⟨R, Ev.unroll ?_, Ev.unroll ?_, hR⟩
   ·simp only [spec_Bridges.l1, w1]; exact Ev.ifn (by omega) e1
   ·simp only [impl_Bridges.l1, w1]; exact Ev.ifn (by omega) e2
 | d + 1, j, acc, e, hl => by
   have ha := floorOk_area hf
   have hl4 : (nbF w h cs i).length ≤ 4 := nearL_le _ _ _ _ _
   have hj : j < (nbF w h cs i).length := by omega
   have hjm : (nbF w h cs i).getD j 0 ∈ nbF w h cs i := by rw [getD_at hj]; exact List.getElem_mem hj
   have hr := nbF_in hf i (by omega) (by omega) _ hjm
   have w1 : wrap64 ((j : Int) + 1) = ((j + 1 : Nat) : Int) := wrap_sc (by omega)
   generalize hv : (nbF w h cs i).getD j 0 = v at hjm hr
   by_cases hg : (i : Int) < v
   ·obtain ⟨m, s1, s2, _⟩ := apart_both w h cs hf i v (by omega) (by omega) hr.1 hr.2
    cases m with
    | true =>
     obtain ⟨R, e1, e2, hR⟩ := bridges_l1 w h cs hf i hi K d (j + 1) acc (by omega) (by omega)
     refine ⟨R, Ev.unroll ?_, Ev.unroll ?_, hR⟩
     ·simp only [spec_Bridges.l1, rd_nat', hv, w1]
      exact Ev.ifp (by omega) (Ev.ifp (by omega) (Ev.ifp hg (Ev.bind s1 (Ev.ifn (by decide) e1))))
     ·simp only [impl_Bridges.l1, rd_nat', hv, w1]
      exact Ev.ifp (by omega) (Ev.ifp (by omega) (Ev.ifp (by omega) (Ev.ifp hg (Ev.bind s2 (Ev.ifp rfl e2)))))
    | false =>
     obtain ⟨R, e1, e2, hR⟩ := bridges_l1 w h cs hf i hi K d (j + 1) (acc ++ [(⟨(i : Int), v⟩ : S71)]) (by omega) (by rw [List.length_append]; simp only [List.length_cons, List.length_nil]; omega)
     have hb : acc.length < 8796093022208 := by omega
     refine ⟨R, Ev.unroll ?_, Ev.unroll ?_, hR⟩
     ·simp only [spec_Bridges.l1, rd_nat', hv, w1]
      exact Ev.ifp (by omega) (Ev.ifp (by omega) (Ev.ifp hg (Ev.bind s1 (Ev.ifp rfl (Ev.ifp hb e1)))))
     ·simp only [impl_Bridges.l1, rd_nat', hv, w1]
      exact Ev.ifp (by omega) (Ev.ifp (by omega) (Ev.ifp (by omega) (Ev.ifp hg (Ev.bind s2 (Ev.ifn (by decide) (Ev.ifp hb e2))))))
   ·obtain ⟨R, e1, e2, hR⟩ := bridges_l1 w h cs hf i hi K d (j + 1) acc (by omega) (by omega)
    refine ⟨R, Ev.unroll ?_, Ev.unroll ?_, hR⟩
    ·simp only [spec_Bridges.l1, rd_nat', hv, w1]
     exact Ev.ifp (by omega) (Ev.ifp (by omega) (Ev.ifn hg e1))
    ·simp only [impl_Bridges.l1, rd_nat', hv, w1]
     exact Ev.ifp (by omega) (Ev.ifp (by omega) (Ev.ifp (by omega) (Ev.ifn hg e2)))
theorem bridges_l0 (w h : Int) (cs : List Int) (hf : floorOk w h cs = true) : ∀ (d i : Nat) (acc : List S71), i + d = cs.length → acc.length ≤ 4 * i → ∃ R, Ev (fun k => spec_Bridges.l0 k acc i w h cs) R ∧ Ev (fun k => impl_Bridges.l0 k acc cs cs.length i w h cs) R ∧ R.length ≤ 400
 | 0, i, acc, e, hl => by
   have ha := floorOk_area hf
   refine ⟨acc, Ev.unroll ?_, Ev.unroll ?_, by omega⟩
   ·simp only [spec_Bridges.l0]; exact Ev.ifn (by omega) (Ev.now _)
   ·simp only [impl_Bridges.l0]; exact Ev.ifn (by omega) (Ev.now _)
 | d + 1, i, acc, e, hl => by
   have ha := floorOk_area hf
   have hi : i < cs.length := by omega
   have fx := fitsAt hf (show (0 : Int) ≤ (i : Int) by omega) (show (i : Int) < (cs.length : Int) by omega)
   have w1 : wrap64 ((i : Int) + 1) = ((i + 1 : Nat) : Int) := wrap_sc (by omega)
   by_cases h0 : rd cs (i : Int) = 0
   ·obtain ⟨R, e1, e2, hR⟩ := bridges_l0 w h cs hf d (i + 1) acc (by omega) (by omega)
    refine ⟨R, Ev.unroll ?_, Ev.unroll ?_, hR⟩
    ·simp only [spec_Bridges.l0, w1]; exact Ev.ifp (by omega) (Ev.ifp (by omega) (Ev.ifp h0 e1))
    ·simp only [impl_Bridges.l0, w1]; exact Ev.ifp (by omega) (Ev.ifp (by omega) (Ev.ifp (by omega) (Ev.ifp h0 e2)))
   ·obtain ⟨R, e1, e2, hR⟩ := bridges_l1 w h cs hf i hi (fun acc ha => bridges_l0 w h cs hf d (i + 1) acc (by omega) ha) (nbF w h cs i).length 0 acc (by omega) (by omega)
    refine ⟨R, Ev.unroll ?_, Ev.unroll ?_, hR⟩
    ·simp only [spec_Bridges.l0, w1]; exact Ev.ifp (by omega) (Ev.ifp (by omega) (Ev.ifn h0 (Ev.bind (spec_l1Near_f w h cs i false fx.1 fx.2) e1)))
    ·simp only [impl_Bridges.l0, w1]; exact Ev.ifp (by omega) (Ev.ifp (by omega) (Ev.ifp (by omega) (Ev.ifn h0 (Ev.bind (impl_near_f w h cs i false fx.1 fx.2) e2))))
theorem bridges_f (w h : Int) (cs : List Int) (hn : cs.length ≤ BIG) : ∃ R, Ev (fun k => spec_Bridges.f k w h cs) R ∧ Ev (fun k => impl_Bridges.f k w h cs) R ∧ R.length ≤ 400 := by
 by_cases hf : floorOk w h cs = true
 ·obtain ⟨R, e1, e2, hR⟩ := bridges_l0 w h cs hf cs.length 0 [] (by omega) (by simp)
  have s1 := spec_FloorOk_f w h cs hn
  have s2 := impl_FloorOk_f w h cs hn
  rw [hf] at s1 s2
  refine ⟨R, ?_, ?_, hR⟩
  ·unfold spec_Bridges.f; simp only [some_bind]; exact Ev.bind s1 (Ev.ifp rfl e1)
  ·unfold impl_Bridges.f; exact Ev.bind s2 (Ev.ifp rfl e2)
 ·have s1 := spec_FloorOk_f w h cs hn
  have s2 := impl_FloorOk_f w h cs hn
  rw [Bool.not_eq_true] at hf
  rw [hf] at s1 s2
  refine ⟨[], ?_, ?_, by simp⟩
  ·unfold spec_Bridges.f; simp only [some_bind]; exact Ev.bind s1 (Ev.ifn (by decide) (Ev.now _))
  ·unfold impl_Bridges.f; exact Ev.bind s2 (Ev.ifn (by decide) (Ev.now _))

theorem fnsound_l0 (w h : Int) (cs : List Int) (hs : soundOf w h cs = true) (hl : cs.length ≤ 100) : ∀ (d i : Nat), i + d = cs.length → Ev (fun k => laws_FnSound.l0 k i w h cs) true
 | 0, i, e => Ev.unroll (by
   obtain ⟨ht, h4, _⟩ := sound_facts hs
   have hc : (cutsOf w h cs).length = 0 := by
    unfold soundOf at hs
    simp only [Bool.and_eq_true, decide_eq_true_eq] at hs
    exact hs.2.2
   have ht2 := impl_Together_f w h cs (by unfold BIG; omega)
   rw [ht] at ht2
   simp only [laws_FnSound.l0]
   exact Ev.ifn (by omega) (Ev.bind (sound_bridges_f w h cs hs (by unfold BIG; omega)) (Ev.ifp rfl (Ev.bind (impl_Cuts_f w h cs (by unfold BIG; omega)) (Ev.ifp (by omega) (Ev.bind ht2 (Ev.now _)))))))
 | d + 1, i, e => Ev.unroll (by
   have ih := fnsound_l0 w h cs hs hl d (i + 1) (by omega)
   have hf := (together_all (sound_facts hs).1).1
   have hb := impl_Block_f w h cs i (by omega)
   simp only [laws_FnSound.l0, wrap_sc (show i < 9223372036854775807 by omega)]
   refine Ev.ifp (by omega) (Ev.bind hb ?_)
   have hk := kindAt_rd hf (show (0 : Int) ≤ (i : Int) by omega) (show (i : Int) < (cs.length : Int) by omega)
   unfold blockOk blockOf
   rw [hk]
   by_cases h0 : rd cs (i : Int) = 0
   ·exact Ev.ifn (by simp [h0]) ih
   ·have ht := impl_Together_f w h (cs.set (i : Int).toNat 0) (by rw [List.length_set]; unfold BIG; omega)
    rw [sound_less hs ⟨by omega, by omega, h0⟩] at ht
    rw [if_neg h0]
    exact Ev.ifp (by simp [h0]) (Ev.bind ht (Ev.ifp rfl ih)))
theorem FnSound : laws_FnSound.Pure := by
 intro b hm hb2 hby
 refine Ev.rounds ?_
 unfold laws_FnSound.f
 simp only [laws_big.f, some_bind, decide_eq_true_eq]
 refine ev_ite' (fun _ => Ev.now _) (fun hbig => ?_)
 obtain ⟨w, h, cs, e, hl⟩ := DrawSound_ok b (by omega)
 have s1 := impl_Sound_f w h cs (by omega)
 have s2 := spec_Sound_f w h cs (by omega)
 refine Ev.bind e (Ev.bind s1 (Ev.bind s2 (Ev.ifn (by simp) ?_)))
 by_cases hs : soundOf w h cs = true
 ·exact Ev.ifp hs (fnsound_l0 w h cs hs hl cs.length 0 (by omega))
 ·obtain ⟨R, e1, e2, _⟩ := bridges_f w h cs (by unfold BIG; omega)
  exact Ev.ifn hs (Ev.bind e2 (Ev.bind e1 (Ev.fin (by simp))))

end Go.Proofs.Ytbebfhlejnidkaa.Pure
