/- Proved here: the law FnPicks, over numbers and lists: for all arguments it returns true; no condition. -/
import Derived.Test.YteajnkondkfmgaaPFnPicksx18
namespace Go.Proofs.Yteajnkondkfmgaa.Pure
open Go.RowKit Go.Proofs.Yteajnkondkfmgaa.PFnPicks Go.Proofs.YteajnkondkfmgaaW.PrintWords Go.Proofs.YteajnkondkfmgaaW.PrintLast
set_option linter.unusedVariables false
set_option linter.unusedSimpArgs false

theorem Ev.unroll {α : Type} {g : Nat → Option α} {r : α} (h : Ev (fun k => g (k + 1)) r) : Ev g r := Ev.step (fun _ => rfl) h
theorem Ev.const {α : Type} {x : Option α} {r : α} (h : x = some r) : Ev (fun _ => x) r := ⟨0, fun _ _ => h⟩
theorem Ev.fin {α : Type} {r s : α} (h : r = s) : Ev (fun _ => some r) s := by rw [h]; exact Ev.now _
theorem wrap_id {x : Int} (h0 : -9223372036854775808 ≤ x) (h1 : x ≤ 9223372036854775807) : wrap64 x = x := by unfold wrap64; omega
abbrev BIG : Nat := 4611686018427387904
theorem wrap_succ {i n : Nat} (h : i < n) (hn : n ≤ BIG) : wrap64 ((i : Int) + 1) = ((i + 1 : Nat) : Int) := by unfold wrap64; unfold BIG at hn; omega
theorem wrap_pred {i n : Nat} (h : i < n) (h0 : 0 < i) (hn : n ≤ BIG) : wrap64 ((i : Int) - 1) = ((i - 1 : Nat) : Int) := by unfold wrap64; unfold BIG at hn; omega
theorem rd_nat {xs : List Int} {i : Nat} (h : i < xs.length) : rd xs (i : Int) = xs[i] := by unfold rd; simp [List.getD, h]
theorem drop_cons {α : Type} {xs : List α} {i : Nat} (h : i < xs.length) : xs.drop i = xs[i] :: xs.drop (i + 1) := List.drop_eq_getElem_cons h
theorem drop_end {α : Type} {xs : List α} {i : Nat} (h : xs.length ≤ i) : xs.drop i = [] := List.drop_of_length_le h
theorem set_id {α : Type} (xs : List α) (i : Nat) (h : i < xs.length) : xs.set i xs[i] = xs := by
 apply List.ext_getElem
 ·simp
 ·intro j h1 h2
  rw [List.getElem_set]
  split
  ·rename_i e; subst e; rfl
  ·rfl
theorem some_bind {α β : Type} (a : α) (f : α → Option β) : (some a).bind f = f a := rfl
theorem getD_at {α : Type} {xs : List α} {d : α} {i : Nat} (h : i < xs.length) : xs.getD i d = xs[i] := by simp [List.getD, h]
def allFrom (n i : Nat) (p : Nat → Bool) : Bool := (List.range' i (n - i)).all p
theorem allFrom_end {n i : Nat} {p : Nat → Bool} (h : n ≤ i) : allFrom n i p = true := by
 unfold allFrom
 rw [show n - i = 0 by omega]; rfl
theorem allFrom_step {n i : Nat} {p : Nat → Bool} (h : i < n) : allFrom n i p = (p i && allFrom n (i + 1) p) := by
 unfold allFrom
 rw [show n - i = (n - (i + 1)) + 1 by omega, List.range'_succ, List.all_cons]
theorem allFrom_no {n i : Nat} {p : Nat → Bool} (h : i < n) (hp : p i = false) : allFrom n i p = false := by rw [allFrom_step h, hp, Bool.false_and]
theorem allFrom_yes {n i : Nat} {p : Nat → Bool} (h : i < n) (hp : p i = true) : allFrom n i p = allFrom n (i + 1) p := by rw [allFrom_step h, hp, Bool.true_and]
theorem allFrom_iff {n i : Nat} {p : Nat → Bool} : allFrom n i p = true ↔ ∀ j, i ≤ j → j < n → p j = true := by
 unfold allFrom
 rw [List.all_eq_true]
 constructor
 ·intro h j h1 h2
  exact h j (by rw [List.mem_range'_1]; omega)
 ·intro h j hj
  rw [List.mem_range'_1] at hj
  exact h j hj.1 (by omega)
theorem wrap_sc {i : Nat} (h : i < 9223372036854775807) : wrap64 ((i : Int) + 1) = ((i + 1 : Nat) : Int) := by unfold wrap64; omega
theorem ev_ite {α : Type} {c : Prop} [Decidable c] {g h : Nat → Option α} {r s : α} (h1 : c → Ev g r) (h2 : ¬ c → Ev h s) : Ev (fun k => if c then g k else h k) (if c then r else s) := by
 by_cases hc : c
 ·simp only [if_pos hc]; exact h1 hc
 ·simp only [if_neg hc]; exact h2 hc
theorem Ev.ifp {α : Type} {c : Prop} [Decidable c] {g h : Nat → Option α} {r : α} (hc : c) (e : Ev g r) : Ev (fun k => if c then g k else h k) r := by simp only [if_pos hc]; exact e
theorem Ev.ifn {α : Type} {c : Prop} [Decidable c] {g h : Nat → Option α} {r : α} (hc : ¬ c) (e : Ev h r) : Ev (fun k => if c then g k else h k) r := by simp only [if_neg hc]; exact e
theorem ev_ite' {α : Type} {c : Prop} [Decidable c] {g h : Nat → Option α} {r : α} (h1 : c → Ev g r) (h2 : ¬ c → Ev h r) : Ev (fun k => if c then g k else h k) r := by
 by_cases hc : c
 ·simp only [if_pos hc]; exact h1 hc
 ·simp only [if_neg hc]; exact h2 hc

theorem bits_and_small (x : Int) {m : Nat} (hm : m < 256) : 0 ≤ Go.bits .and .i64 x (m : Int) ∧ Go.bits .and .i64 x (m : Int) ≤ (m : Int) := by
 unfold Go.bits
 show 0 ≤ IntKind.i64.wrap ((BitVec.ofInt 64 x &&& BitVec.ofInt 64 (m : Int)).toNat : Int) ∧ IntKind.i64.wrap ((BitVec.ofInt 64 x &&& BitVec.ofInt 64 (m : Int)).toNat : Int) ≤ (m : Int)
 rw [BitVec.toNat_and, BitVec.ofInt_natCast, BitVec.toNat_ofNat, Nat.mod_eq_of_lt (show m < 2 ^ 64 by omega)]
 have h : (BitVec.ofInt 64 x).toNat &&& m ≤ m := Nat.and_le_right
 rw [i64_w, wrap_id (by omega) (by omega)]
 omega
theorem l1Byte_ok (b : List Int) (i h : Int) (hi : 0 ≤ i) (hb : b.length ≤ 1048576) : ∃ x i' h' : Int, spec_l1Byte.f b i h = some (x, i', h') ∧ 0 ≤ x ∧ x ≤ 255 ∧ 0 ≤ i' := by
 unfold spec_l1Byte.f
 by_cases h1 : i < (b.length : Int)
 ·rw [if_pos h1, if_pos hi, wrap_id (x := i + 1) (by omega) (by omega)]
  have := bits_and_small (m := 255) (wrap64 (Go.bits .and .i64 (Go.bits .xor .i64 (wrap64 (wrap64 (h * 6364136223846793005) + 1442695040888963407) / 8589934592) (wrap64 (wrap64 (h * 6364136223846793005) + 1442695040888963407) / 140737488355328)) 255 + wrap64 (rd b i))) (by omega)
  exact ⟨_, _, _, rfl, this.1, this.2, by omega⟩
 ·rw [if_neg h1]
  have := bits_and_small (m := 255) (Go.bits .xor .i64 (wrap64 (wrap64 (h * 6364136223846793005) + 1442695040888963407) / 8589934592) (wrap64 (wrap64 (h * 6364136223846793005) + 1442695040888963407) / 140737488355328)) (by omega)
  exact ⟨_, _, _, rfl, this.1, this.2, by omega⟩
theorem l1Below_ok (b : List Int) (i h n : Int) (hi : 0 ≤ i) (hb : b.length ≤ 1048576) : ∃ x i' h' : Int, spec_l1Below.f b i h n = some (x, i', h') ∧ 0 ≤ i' ∧ 0 ≤ x ∧ (0 < n → x < n) ∧ (n ≤ 0 → x = 0) := by
 unfold spec_l1Below.f
 by_cases h1 : n ≤ 0
 ·rw [if_pos h1]
  exact ⟨_, _, _, rfl, hi, by omega, by omega, fun _ => rfl⟩
 ·rw [if_neg h1]
  obtain ⟨x, i1, s1, e1, x0, x1, hi1⟩ := l1Byte_ok b i h hi hb
  rw [e1]
  simp only [some_bind]
  by_cases h2 : n ≤ 256
  ·rw [if_pos h2, if_neg (by omega)]
   refine ⟨_, _, _, rfl, hi1, ?_, fun _ => ?_, fun h => by omega⟩
   ·rw [Int.tmod_eq_emod_of_nonneg x0]; exact Int.emod_nonneg _ (by omega)
   ·rw [Int.tmod_eq_emod_of_nonneg x0]; exact Int.emod_lt_of_pos _ (by omega)
  ·rw [if_neg h2]
   obtain ⟨y, i2, s2, e2, y0, y1, hi2⟩ := l1Byte_ok b i1 s1 hi1 hb
   rw [e2]
   simp only [some_bind]
   obtain ⟨z, i3, s3, e3, z0, z1, hi3⟩ := l1Byte_ok b i2 s2 hi2 hb
   rw [e3]
   simp only [some_bind]
   rw [if_neg (by omega), wrap_id (x := x * 65536) (by omega) (by omega), wrap_id (x := y * 256) (by omega) (by omega), wrap_id (x := x * 65536 + y * 256) (by omega) (by omega), wrap_id (x := x * 65536 + y * 256 + z) (by omega) (by omega)]
   refine ⟨_, _, _, rfl, hi3, ?_, fun _ => ?_, fun h => by omega⟩
   ·rw [Int.tmod_eq_emod_of_nonneg (by omega)]; exact Int.emod_nonneg _ (by omega)
   ·rw [Int.tmod_eq_emod_of_nonneg (by omega)]; exact Int.emod_lt_of_pos _ (by omega)
theorem l1Once_ok (b : List Int) (i h n : Int) (hi : 0 ≤ i) (hb : b.length ≤ 1048576) : ∃ (x : Bool) (i' h' : Int), spec_l1Once.f b i h n = some (x, i', h') ∧ 0 ≤ i' := by
 obtain ⟨x, i1, s1, e1, hi1, _⟩ := l1Below_ok b i h n hi hb
 unfold spec_l1Once.f
 rw [e1]
 exact ⟨_, _, _, rfl, hi1⟩
theorem l1Int_ok (b : List Int) (i h : Int) (l : List Int) (hi : 0 ≤ i) (hb : b.length ≤ 1048576) (hl : 0 < l.length) (hl2 : l.length ≤ 1048576) : ∃ x i' h' : Int, spec_l1Int.f b i h l = some (x, i', h') ∧ 0 ≤ i' ∧ x ∈ l := by
 obtain ⟨x, i1, s1, e1, hi1, x0, x1, _⟩ := l1Below_ok b i h l.length hi hb
 have x2 := x1 (by omega)
 unfold spec_l1Int.f
 rw [e1]
 simp only [some_bind]
 rw [if_pos x0, if_pos x2]
 refine ⟨_, _, _, rfl, hi1, ?_⟩
 unfold rd
 rw [getD_at (by omega)]
 exact List.getElem_mem _
theorem l1New_ok (b : List Int) (hb : b.length ≤ 1048576) : ∃ h : Int, Ev (fun k => spec_l1New.f k b) (b, 0, h) := by
 have key : ∀ (d i : Nat) (h : Int), i + d = b.length → ∃ h' : Int, Ev (fun k => spec_l1New.l0 k b h i) (b, 0, h') := by
  intro d
  induction d with
  | zero =>
   intro i h e
   exact ⟨h, Ev.unroll (by simp only [spec_l1New.l0]; exact Ev.ifn (by omega) (Ev.now _))⟩
  | succ d ih =>
   intro i h e
   by_cases h4 : (i : Int) < 4000
   ·obtain ⟨h', hh⟩ := ih (i + 1) (Go.bits .and .i64 (wrap64 (wrap64 (wrap64 (h * 137) + wrap64 (rd b i)) + 11)) 1073741823) (by omega)
    refine ⟨h', Ev.unroll ?_⟩
    simp only [spec_l1New.l0]
    refine Ev.ifp (by omega) (Ev.ifp h4 (Ev.ifp (by omega) ?_))
    rw [wrap_sc (by omega)]
    exact hh
   ·exact ⟨h, Ev.unroll (by simp only [spec_l1New.l0]; exact Ev.ifp (by omega) (Ev.ifn h4 (Ev.now _)))⟩
 exact key b.length 0 _ (by omega)

theorem rd_struct_at {α : Type} {xs : List α} {d : α} {i : Nat} (h : i < xs.length) : xs.getD (i : Int).toNat d = xs[i] := by rw [Int.toNat_natCast]; exact getD_at h
def inB (a b c : Int) : Bool := decide (b ≤ a ∧ a ≤ c)
theorem inB_iff {a b c : Int} : inB a b c = true ↔ b ≤ a ∧ a ≤ c := by unfold inB; exact decide_eq_true_iff
theorem impl_in_f (a b c : Int) : impl_in.f a b c = some (inB a b c) := by
 unfold impl_in.f inB
 by_cases h : b ≤ a <;> by_cases h2 : a ≤ c <;> simp [h, h2]
theorem spec_l1In_f (a b c : Int) : spec_l1In.f a b c = some (inB a b c) := by
 unfold spec_l1In.f inB
 by_cases h : b ≤ a <;> by_cases h2 : a ≤ c <;> simp [h, h2]

def stackAt (l : List S72) (j : Nat) : S72 := l.getD j z72
def podAtN (l : List S79) (j : Nat) : S79 := l.getD j z79
def stackOk (l : List S72) (j : Nat) : Bool := inB (stackAt l j).f0 1 50 && (inB (stackAt l j).f1 1 1000 && (inB (stackAt l j).f2 0 (stackAt l j).f1 && (decide (j = 0) || decide ((stackAt l (j - 1)).f0 < (stackAt l j).f0))))
def stacksOk (l : List S72) : Bool := allFrom l.length 0 (stackOk l)
def podOk (p : S79) : Bool := inB p.f0 1 999 && (inB p.f1 0 99 && (decide (p.f2.length ≤ 8) && stacksOk p.f2))
def homesOk (l : List S79) (i : Nat) : Nat → Bool := fun k => !decide ((podAtN l k).f1 = (podAtN l i).f1)
def podAtOk (l : List S79) (i : Nat) : Bool := podOk (podAtN l i) && ((decide (i = 0) || decide ((podAtN l (i - 1)).f0 < (podAtN l i).f0)) && allFrom i 0 (homesOk l i))
def stockOk (l : List S79) : Bool := decide (l.length ≤ 12) && allFrom l.length 0 (podAtOk l)
theorem rd_stack {l : List S72} {i : Nat} : rd_T72 l (i : Int) = stackAt l i := by unfold rd_T72 stackAt; rw [Int.toNat_natCast]
theorem rd_pod {l : List S79} {i : Nat} : rd_T79 l (i : Int) = podAtN l i := by unfold rd_T79 podAtN; rw [Int.toNat_natCast]
theorem wrap_pd {i : Nat} (h : i < 9223372036854775807) (h0 : 0 < i) : wrap64 ((i : Int) - 1) = ((i - 1 : Nat) : Int) := by unfold wrap64; omega
theorem spec_l5Stacks_l0 (l : List S72) (hn : l.length ≤ 4194304) : ∀ (d i : Nat), i + d = l.length → Ev (fun k => spec_l5Stacks.l0 k l i) (decide (l.length ≤ 8) && allFrom l.length i (stackOk l))
 | 0, i, h => Ev.unroll (by
   simp only [spec_l5Stacks.l0]
   refine Ev.ifn (by omega) (Ev.fin ?_)
   rw [allFrom_end (by omega), Bool.and_true, Bool.eq_iff_iff, decide_eq_true_eq, decide_eq_true_eq]; omega)
 | d + 1, i, h => Ev.unroll (by
   have hi : i < l.length := by omega
   have ih := spec_l5Stacks_l0 l hn d (i + 1) (by omega)
   simp only [spec_l5Stacks.l0, spec_l1In_f, some_bind, rd_stack, wrap_sc (show i < 9223372036854775807 by omega)]
   rw [allFrom_step hi]
   refine Ev.ifp (by omega) (Ev.ifp (by omega) ?_)
   have no : ∀ b : Bool, stackOk l i = false → Ev (fun _ : Nat => some false) (decide (l.length ≤ 8) && (stackOk l i && allFrom l.length (i + 1) (stackOk l))) := fun _ e => Ev.fin (by rw [e]; simp)
   refine ev_ite' (fun h1 => ev_ite' (fun h2 => ev_ite' (fun h3 => ?_) (fun h3 => no true ?_)) (fun h2 => no true ?_)) (fun h1 => no true ?_)
   ·by_cases h0 : 0 < i
    ·rw [wrap_pd (by omega) h0]
     simp only [rd_stack]
     refine Ev.ifp (by omega) (Ev.ifp (by omega) (Ev.ifp (by omega) ?_))
     refine ev_ite' (fun h4 => no true ?_) (fun h4 => ?_)
     ·unfold stackOk; rw [h1, h2, h3, decide_eq_false (by omega), decide_eq_false (by omega)]; rfl
     ·rw [show stackOk l i = true by unfold stackOk; rw [h1, h2, h3, decide_eq_true (show (stackAt l (i - 1)).f0 < (stackAt l i).f0 by omega), Bool.or_true]; rfl, Bool.true_and]
      exact ih
    ·refine Ev.ifn (by omega) ?_
     rw [show stackOk l i = true by unfold stackOk; rw [h1, h2, h3, decide_eq_true (show i = 0 by omega), Bool.true_or]; rfl, Bool.true_and]
     exact ih
   ·unfold stackOk; rw [Bool.not_eq_true] at h3; rw [h3]; simp
   ·unfold stackOk; rw [Bool.not_eq_true] at h2; rw [h2]; simp
   ·unfold stackOk; rw [Bool.not_eq_true] at h1; rw [h1]; simp)
theorem impl_podOk_l0 (x y : Int) (l : List S72) (hn : l.length ≤ 4194304) : ∀ (d i : Nat), i + d = l.length → Ev (fun k => impl_podOk.l0 k l l.length i x y l) (allFrom l.length i (stackOk l))
 | 0, i, h => Ev.unroll (by
   simp only [impl_podOk.l0]
   exact Ev.ifn (by omega) (Ev.fin (allFrom_end (by omega)).symm))
 | d + 1, i, h => Ev.unroll (by
   have hi : i < l.length := by omega
   have ih := impl_podOk_l0 x y l hn d (i + 1) (by omega)
   simp only [impl_podOk.l0, impl_in_f, some_bind, rd_stack, wrap_sc (show i < 9223372036854775807 by omega)]
   rw [allFrom_step hi]
   refine Ev.ifp (by omega) (Ev.ifp (by omega) (Ev.ifp (by omega) ?_))
   have no : ∀ b : Bool, stackOk l i = false → Ev (fun _ : Nat => some false) (stackOk l i && allFrom l.length (i + 1) (stackOk l)) := fun _ e => Ev.fin (by rw [e]; simp)
   refine ev_ite' (fun h1 => ev_ite' (fun h2 => ev_ite' (fun h3 => ?_) (fun h3 => no true ?_)) (fun h2 => no true ?_)) (fun h1 => no true ?_)
   ·by_cases h0 : 0 < i
    ·rw [wrap_pd (by omega) h0]
     simp only [rd_stack]
     refine Ev.ifp (by omega) (Ev.ifp (by omega) (Ev.ifp (by omega) ?_))
     refine ev_ite' (fun h4 => no true ?_) (fun h4 => ?_)
     ·unfold stackOk; rw [h1, h2, h3, decide_eq_false (by omega), decide_eq_false (by omega)]; rfl
     ·rw [show stackOk l i = true by unfold stackOk; rw [h1, h2, h3, decide_eq_true (show (stackAt l (i - 1)).f0 < (stackAt l i).f0 by omega), Bool.or_true]; rfl, Bool.true_and]
      exact ih
    ·refine Ev.ifn (by omega) ?_
     rw [show stackOk l i = true by unfold stackOk; rw [h1, h2, h3, decide_eq_true (show i = 0 by omega), Bool.true_or]; rfl, Bool.true_and]
     exact ih
   ·unfold stackOk; rw [Bool.not_eq_true] at h3; rw [h3]; simp
   ·unfold stackOk; rw [Bool.not_eq_true] at h2; rw [h2]; simp
   ·unfold stackOk; rw [Bool.not_eq_true] at h1; rw [h1]; simp)
theorem impl_podOk_f (p : S79) (hn : p.f2.length ≤ 4194304) : Ev (fun k => impl_podOk.f k p.f0 p.f1 p.f2) (podOk p) := by
 unfold impl_podOk.f
 simp only [impl_in_f, some_bind]
 have no : podOk p = false → Ev (fun k => impl_podOk.j0 k true p.f0 p.f1 p.f2) (podOk p) := fun e => Ev.unroll (by
  simp only [impl_podOk.j0]
  exact Ev.ifp trivial (Ev.fin e.symm))
 refine ev_ite' (fun h1 => ev_ite' (fun h2 => ?_) (fun h2 => no ?_)) (fun h1 => no ?_)
 ·by_cases h3 : p.f2.length ≤ 8
  ·rw [decide_eq_false (by omega)]
   refine Ev.unroll ?_
   simp only [impl_podOk.j0]
   rw [show podOk p = stacksOk p.f2 by unfold podOk; rw [h1, h2, decide_eq_true h3]; rfl]
   exact Ev.ifn (by simp) (impl_podOk_l0 _ _ p.f2 hn p.f2.length 0 (by omega))
  ·rw [decide_eq_true (by omega)]
   exact no (by unfold podOk; rw [decide_eq_false h3]; simp)
 ·unfold podOk; rw [Bool.not_eq_true] at h2; rw [h2]; simp
 ·unfold podOk; rw [Bool.not_eq_true] at h1; rw [h1]; simp
theorem spec_StockOk_l1 (l : List S79) (i : Nat) (hn : l.length ≤ 4194304) (hi : i < l.length) (R : Bool) (hR : Ev (fun k => spec_StockOk.l0 k ((i + 1 : Nat) : Int) l) R) : ∀ (d j : Nat), j + d = i → Ev (fun k => spec_StockOk.l1 k i j l (podAtN l i).f0 (podAtN l i).f1 (podAtN l i).f2) (allFrom i j (homesOk l i) && R)
 | 0, j, h => Ev.unroll (by
   simp only [spec_StockOk.l1, wrap_sc (show i < 9223372036854775807 by omega)]
   rw [allFrom_end (by omega), Bool.true_and]
   exact Ev.ifn (by omega) hR)
 | d + 1, j, h => Ev.unroll (by
   have ih := spec_StockOk_l1 l i hn hi R hR d (j + 1) (by omega)
   simp only [spec_StockOk.l1, rd_pod, wrap_sc (show j < 9223372036854775807 by omega)]
   rw [allFrom_step (by omega)]
   refine Ev.ifp (by omega) (Ev.ifp (by omega) (Ev.ifp (by omega) ?_))
   refine ev_ite' (fun h1 => Ev.fin ?_) (fun h1 => ?_)
   ·unfold homesOk; rw [decide_eq_true h1]; rfl
   ·rw [show homesOk l i j = true by unfold homesOk; rw [decide_eq_false h1]; rfl, Bool.true_and]
    exact ih)
theorem spec_StockOk_l0 (l : List S79) (hn : l.length ≤ 4194304) (hx : ∀ x ∈ l, x.f2.length ≤ 4194304) : ∀ (d i : Nat), i + d = l.length → Ev (fun k => spec_StockOk.l0 k i l) (allFrom l.length i (podAtOk l))
 | 0, i, h => Ev.unroll (by
   simp only [spec_StockOk.l0]
   exact Ev.ifn (by omega) (Ev.fin (allFrom_end (by omega)).symm))
 | d + 1, i, h => Ev.unroll (by
   have hi : i < l.length := by omega
   have hp : (podAtN l i).f2.length ≤ 4194304 := by unfold podAtN; rw [getD_at hi]; exact hx _ (List.getElem_mem hi)
   have ih := spec_StockOk_l0 l hn hx d (i + 1) (by omega)
   have hs : Ev (fun k => spec_l5Stacks.f k (podAtN l i).f2) (decide ((podAtN l i).f2.length ≤ 8) && stacksOk (podAtN l i).f2) := spec_l5Stacks_l0 _ hp (podAtN l i).f2.length 0 (by omega)
   simp only [spec_StockOk.l0, spec_l1In_f, some_bind, rd_pod]
   rw [allFrom_step hi]
   refine Ev.ifp (by omega) (Ev.ifp (by omega) ?_)
   have no : podAtOk l i = false → Ev (fun k => spec_StockOk.j1 k i true l (podAtN l i).f0 (podAtN l i).f1 (podAtN l i).f2) (podAtOk l i && allFrom l.length (i + 1) (podAtOk l)) := fun e => Ev.unroll (by
    simp only [spec_StockOk.j1]
    exact Ev.ifp trivial (Ev.fin (by rw [e]; rfl)))
   have yes : podOk (podAtN l i) = true → (i = 0 ∨ (podAtN l (i - 1)).f0 < (podAtN l i).f0) → Ev (fun k => spec_StockOk.j1 k i false l (podAtN l i).f0 (podAtN l i).f1 (podAtN l i).f2) (podAtOk l i && allFrom l.length (i + 1) (podAtOk l)) := fun e e2 => Ev.unroll (by
    simp only [spec_StockOk.j1]
    rw [show podAtOk l i = allFrom i 0 (homesOk l i) by unfold podAtOk; rw [e, Bool.true_and, show (decide (i = 0) || decide ((podAtN l (i - 1)).f0 < (podAtN l i).f0)) = true by rcases e2 with h | h <;> simp [h], Bool.true_and]]
    exact Ev.ifn (by simp) (spec_StockOk_l1 l i hn hi _ ih i 0 (by omega)))
   refine ev_ite' (fun h1 => ev_ite' (fun h2 => Ev.bind hs (ev_ite' (fun h3 => ?_) (fun h3 => no ?_))) (fun h2 => no ?_)) (fun h1 => no ?_)
   ·have hok : podOk (podAtN l i) = true := by unfold podOk; rw [h1, h2, h3]; rfl
    by_cases h0 : 0 < i
    ·rw [wrap_pd (by omega) h0]
     simp only [rd_pod]
     refine Ev.ifp (by omega) (Ev.ifp (by omega) (Ev.ifp (by omega) ?_))
     by_cases h4 : (podAtN l (i - 1)).f0 ≥ (podAtN l i).f0
     ·rw [decide_eq_true h4]
      exact no (by unfold podAtOk; rw [hok, decide_eq_false (by omega), decide_eq_false (by omega)]; rfl)
     ·rw [decide_eq_false h4]
      exact yes hok (Or.inr (by omega))
    ·exact Ev.ifn (by omega) (yes hok (Or.inl (by omega)))
   ·unfold podAtOk podOk; rw [Bool.not_eq_true] at h3; rw [h3]; simp
   ·unfold podAtOk podOk; rw [Bool.not_eq_true] at h2; rw [h2]; simp
   ·unfold podAtOk podOk; rw [Bool.not_eq_true] at h1; rw [h1]; simp)
theorem spec_StockOk_f (l : List S79) (hn : l.length ≤ 4194304) (hx : ∀ x ∈ l, x.f2.length ≤ 4194304) : Ev (fun k => spec_StockOk.f k l) (stockOk l) := by
 unfold spec_StockOk.f stockOk
 by_cases h : l.length ≤ 12
 ·rw [decide_eq_true h, Bool.true_and]
  exact Ev.ifn (by omega) (spec_StockOk_l0 l hn hx l.length 0 (by omega))
 ·rw [decide_eq_false h, Bool.false_and]
  exact Ev.ifp (by omega) (Ev.now _)
theorem impl_StockOk_l1 (l ys : List S79) (i : Nat) (hn : l.length ≤ 4194304) (hi : i < l.length) (hy : ys = l.take i) (R : Bool) (hR : Ev (fun k => impl_StockOk.l0 k l l.length ((i + 1 : Nat) : Int) l) R) : ∀ (d j : Nat), j + d = i → Ev (fun k => impl_StockOk.l1 k l l.length i ys ys.length j l (podAtN l i).f0 (podAtN l i).f1 (podAtN l i).f2) (allFrom i j (homesOk l i) && R)
 | 0, j, h => Ev.unroll (by
   have hl : ys.length = i := by rw [hy]; simp; omega
   simp only [impl_StockOk.l1, wrap_sc (show i < 9223372036854775807 by omega)]
   rw [allFrom_end (by omega), Bool.true_and]
   exact Ev.ifn (by omega) hR)
 | d + 1, j, h => Ev.unroll (by
   have hl : ys.length = i := by rw [hy]; simp; omega
   have hj : podAtN ys j = podAtN l j := by unfold podAtN; rw [getD_at (by omega), getD_at (by omega)]; simp [hy]
   have ih := impl_StockOk_l1 l ys i hn hi hy R hR d (j + 1) (by omega)
   simp only [impl_StockOk.l1, rd_pod, wrap_sc (show j < 9223372036854775807 by omega)]
   rw [allFrom_step (by omega), hj]
   refine Ev.ifp (by omega) (Ev.ifp (by omega) (Ev.ifp (by omega) ?_))
   refine ev_ite' (fun h1 => Ev.fin ?_) (fun h1 => ?_)
   ·unfold homesOk; rw [decide_eq_true h1]; rfl
   ·rw [show homesOk l i j = true by unfold homesOk; rw [decide_eq_false h1]; rfl, Bool.true_and]
    exact ih)
theorem impl_StockOk_l0 (l : List S79) (hn : l.length ≤ 4194304) (hx : ∀ x ∈ l, x.f2.length ≤ 4194304) : ∀ (d i : Nat), i + d = l.length → Ev (fun k => impl_StockOk.l0 k l l.length i l) (allFrom l.length i (podAtOk l) && decide (l.length ≤ 12))
 | 0, i, h => Ev.unroll (by
   simp only [impl_StockOk.l0]
   refine Ev.ifn (by omega) (Ev.fin ?_)
   rw [allFrom_end (by omega), Bool.true_and, Bool.eq_iff_iff, decide_eq_true_eq, decide_eq_true_eq]; omega)
 | d + 1, i, h => Ev.unroll (by
   have hi : i < l.length := by omega
   have hp : (podAtN l i).f2.length ≤ 4194304 := by unfold podAtN; rw [getD_at hi]; exact hx _ (List.getElem_mem hi)
   have ih := impl_StockOk_l0 l hn hx d (i + 1) (by omega)
   have hs := impl_podOk_f (podAtN l i) hp
   simp only [impl_StockOk.l0, rd_pod]
   rw [allFrom_step hi]
   refine Ev.ifp (by omega) (Ev.ifp (by omega) (Ev.ifp (by omega) (Ev.bind hs ?_)))
   have no : podAtOk l i = false → Ev (fun k => impl_StockOk.j1 k i l l.length i true l (podAtN l i).f0 (podAtN l i).f1 (podAtN l i).f2) (podAtOk l i && allFrom l.length (i + 1) (podAtOk l) && decide (l.length ≤ 12)) := fun e => Ev.unroll (by
    simp only [impl_StockOk.j1]
    exact Ev.ifp trivial (Ev.fin (by rw [e]; rfl)))
   have yes : podOk (podAtN l i) = true → (i = 0 ∨ (podAtN l (i - 1)).f0 < (podAtN l i).f0) → Ev (fun k => impl_StockOk.j1 k i l l.length i false l (podAtN l i).f0 (podAtN l i).f1 (podAtN l i).f2) (podAtOk l i && allFrom l.length (i + 1) (podAtOk l) && decide (l.length ≤ 12)) := fun e e2 => Ev.unroll (by
    simp only [impl_StockOk.j1, some_bind, Int.toNat_natCast]
    rw [show podAtOk l i = allFrom i 0 (homesOk l i) by unfold podAtOk; rw [e, Bool.true_and, show (decide (i = 0) || decide ((podAtN l (i - 1)).f0 < (podAtN l i).f0)) = true by rcases e2 with h | h <;> simp [h], Bool.true_and], Bool.and_assoc]
    exact Ev.ifn (by simp) (Ev.ifp (by omega) (Ev.ifp (by omega) (impl_StockOk_l1 l _ i hn hi rfl _ ih i 0 (by omega)))))
   refine ev_ite' (fun hok => ?_) (fun hok => no ?_)
   ·by_cases h0 : 0 < i
    ·rw [wrap_pd (by omega) h0]
     simp only [rd_pod]
     refine Ev.ifp (by omega) (Ev.ifp (by omega) (Ev.ifp (by omega) ?_))
     by_cases h4 : (podAtN l (i - 1)).f0 ≥ (podAtN l i).f0
     ·rw [decide_eq_true h4]
      exact no (by unfold podAtOk; rw [hok, decide_eq_false (by omega), decide_eq_false (by omega)]; rfl)
     ·rw [decide_eq_false h4]
      exact yes hok (Or.inr (by omega))
    ·exact Ev.ifn (by omega) (yes hok (Or.inl (by omega)))
   ·unfold podAtOk; rw [Bool.not_eq_true] at hok; rw [hok]; simp)
theorem impl_StockOk_f (l : List S79) (hn : l.length ≤ 4194304) (hx : ∀ x ∈ l, x.f2.length ≤ 4194304) : Ev (fun k => impl_StockOk.f k l) (stockOk l) := by
 unfold impl_StockOk.f stockOk
 rw [Bool.and_comm]
 exact impl_StockOk_l0 l hn hx l.length 0 (by omega)

def lowIdx (l : List S72) (sku : Int) : Nat := (l.takeWhile (fun x => decide (x.f0 < sku))).length
def hitAt (l : List S72) (sku : Int) : Bool := decide (lowIdx l sku < l.length) && ((stackAt l (lowIdx l sku)).f0 == sku)
def stackOf (l : List S72) (sku : Int) : S72 := (l.find? (fun x => x.f0 == sku)).getD ⟨sku, 0, 0⟩
theorem lowIdx_le (l : List S72) (sku : Int) : lowIdx l sku ≤ l.length := by
 unfold lowIdx; exact (List.takeWhile_prefix _).length_le
theorem lowIdx_cons (x : S72) (l : List S72) (sku : Int) : lowIdx (x :: l) sku = if x.f0 < sku then lowIdx l sku + 1 else 0 := by
 unfold lowIdx
 rw [List.takeWhile_cons]
 by_cases h : x.f0 < sku <;> simp [h]
theorem hit_stack {sku : Int} : ∀ {l : List S72}, l.Pairwise (fun a b => a.f0 < b.f0) → (hitAt l sku = true → stackOf l sku = stackAt l (lowIdx l sku) ∧ (stackOf l sku).f0 = sku) ∧ (hitAt l sku = false → stackOf l sku = ⟨sku, 0, 0⟩ ∧ ∀ x ∈ l, x.f0 ≠ sku)
 | [], _ => ⟨fun h => by simp [hitAt] at h, fun _ => ⟨rfl, by simp⟩⟩
 | x :: t, hp => by
  have hs := List.pairwise_cons.1 hp
  have ih := hit_stack (sku := sku) hs.2
  have el := lowIdx_cons x t sku
  by_cases h1 : x.f0 < sku
  ·rw [if_pos h1] at el
   have e1 : hitAt (x :: t) sku = hitAt t sku := by
    unfold hitAt stackAt
    rw [el, List.getD_cons_succ, List.length_cons]
    simp
   have e2 : stackOf (x :: t) sku = stackOf t sku := by
    unfold stackOf
    rw [List.find?_cons_of_neg (by simp; omega)]
   have e3 : stackAt (x :: t) (lowIdx (x :: t) sku) = stackAt t (lowIdx t sku) := by
    unfold stackAt; rw [el, List.getD_cons_succ]
   rw [e1, e2, e3]
   exact ⟨ih.1, fun h => ⟨(ih.2 h).1, fun y hy => by
    rcases List.mem_cons.1 hy with rfl | hy
    ·omega
    ·exact (ih.2 h).2 y hy⟩⟩
  ·rw [if_neg h1] at el
   have e3 : stackAt (x :: t) (lowIdx (x :: t) sku) = x := by unfold stackAt; rw [el]; rfl
   by_cases h2 : x.f0 = sku
   ·have e2 : stackOf (x :: t) sku = x := by unfold stackOf; rw [List.find?_cons_of_pos (by simpa using h2)]; rfl
    refine ⟨fun _ => ⟨by rw [e2, e3], by rw [e2]; exact h2⟩, fun h => ?_⟩
    unfold hitAt at h
    rw [e3, el] at h
    simp [h2] at h
   ·have h4 : ∀ y ∈ x :: t, y.f0 ≠ sku := fun y hy => by
     rcases List.mem_cons.1 hy with rfl | hy
     ·exact h2
     ·have := hs.1 y hy; omega
    refine ⟨fun h => ?_, fun _ => ⟨?_, h4⟩⟩
    ·unfold hitAt at h
     rw [e3] at h
     simp [h2] at h
    ·unfold stackOf
     rw [List.find?_eq_none.2 (fun y hy => by simpa using h4 y hy)]; rfl
theorem stacks_facts {l : List S72} (h : stacksOk l = true) : l.Pairwise (fun a b => a.f0 < b.f0) ∧ ∀ x ∈ l, 1 ≤ x.f0 ∧ x.f0 ≤ 50 ∧ 1 ≤ x.f1 ∧ x.f1 ≤ 1000 ∧ 0 ≤ x.f2 ∧ x.f2 ≤ x.f1 := by
 unfold stacksOk at h
 rw [allFrom_iff] at h
 have hk : ∀ j, j < l.length → (1 ≤ (stackAt l j).f0 ∧ (stackAt l j).f0 ≤ 50 ∧ 1 ≤ (stackAt l j).f1 ∧ (stackAt l j).f1 ≤ 1000 ∧ 0 ≤ (stackAt l j).f2 ∧ (stackAt l j).f2 ≤ (stackAt l j).f1) ∧ (0 < j → (stackAt l (j - 1)).f0 < (stackAt l j).f0) := fun j hj => by
  have := h j (by omega) hj
  unfold stackOk at this
  simp only [Bool.and_eq_true, Bool.or_eq_true, inB_iff, decide_eq_true_eq] at this
  exact ⟨⟨this.1.1, this.1.2, this.2.1.1, this.2.1.2, this.2.2.1.1, this.2.2.1.2⟩, fun h0 => by rcases this.2.2.2 with h | h; omega; exact h⟩
 have step : ∀ (j i : Nat), i < j → j < l.length → (stackAt l i).f0 < (stackAt l j).f0 := by
  intro j
  induction j with
  | zero => intro i h; omega
  | succ j ih =>
   intro i h1 h2
   have h3 := (hk (j + 1) h2).2 (by omega)
   rw [Nat.add_sub_cancel] at h3
   by_cases e : i = j
   ·subst e; exact h3
   ·exact Int.lt_trans (ih i (by omega) (by omega)) h3
 refine ⟨List.pairwise_iff_getElem.2 fun i j hi hj hij => ?_, fun x hx => ?_⟩
 ·have := step j i hij hj
  unfold stackAt at this
  rwa [getD_at hi, getD_at hj] at this
 ·obtain ⟨j, hj, rfl⟩ := List.mem_iff_getElem.1 hx
  have := (hk j hj).1
  unfold stackAt at this
  rwa [getD_at hj] at this
structure PodFacts (p : S79) : Prop where
 id : 1 ≤ p.f0 ∧ p.f0 ≤ 999
 home : 0 ≤ p.f1 ∧ p.f1 ≤ 99
 len : p.f2.length ≤ 8
 stacks : stacksOk p.f2 = true
theorem stock_pods {l : List S79} (h : stockOk l = true) : l.length ≤ 12 ∧ ∀ i : Nat, i < l.length → PodFacts (podAtN l i) := by
 unfold stockOk at h
 simp only [Bool.and_eq_true, decide_eq_true_eq, allFrom_iff] at h
 refine ⟨h.1, fun i hi => ?_⟩
 have := h.2 i (by omega) hi
 unfold podAtOk podOk at this
 simp only [Bool.and_eq_true, inB_iff, decide_eq_true_eq] at this
 exact ⟨this.1.1, this.1.2.1, this.1.2.2.1, this.1.2.2.2⟩
theorem stackOf_bounds {l : List S72} (h : stacksOk l = true) (sku : Int) : 0 ≤ (stackOf l sku).f1 ∧ (stackOf l sku).f1 ≤ 1000 ∧ 0 ≤ (stackOf l sku).f2 ∧ (stackOf l sku).f2 ≤ (stackOf l sku).f1 := by
 have f := stacks_facts h
 unfold stackOf
 cases e : l.find? (fun x => x.f0 == sku) with
 | none => simp
 | some x =>
  have := f.2 x (List.mem_of_find?_eq_some e)
  simp only [Option.getD_some]; omega
theorem impl_stackAt_f (x y : Int) (l : List S72) (sku : Int) (hn : l.length ≤ 4194304) : Ev (fun k => impl_stackAt.f k x y l sku) ((lowIdx l sku : Nat), hitAt l sku) := by
 have key : ∀ (d i : Nat), i + d = l.length → i + lowIdx (l.drop i) sku = lowIdx l sku → Ev (fun k => impl_stackAt.l0 k sku i x y l) (((lowIdx l sku : Nat) : Int), hitAt l sku) := by
  intro d
  induction d with
  | zero =>
   intro i e hl
   refine Ev.unroll ?_
   simp only [impl_stackAt.l0]
   rw [drop_end (by omega)] at hl
   have : lowIdx l sku = i := by rw [← hl]; simp [lowIdx]
   refine Ev.ifn (by omega) (Ev.fin ?_)
   unfold hitAt
   rw [this, decide_eq_false (by omega)]; rfl
  | succ d ih =>
   intro i e hl
   have hi : i < l.length := by omega
   have ei : stackAt l i = l[i] := by unfold stackAt; exact getD_at hi
   refine Ev.unroll ?_
   simp only [impl_stackAt.l0, rd_stack, wrap_sc (show i < 9223372036854775807 by omega)]
   rw [drop_cons hi, lowIdx_cons, ← ei] at hl
   refine Ev.ifp (by omega) (Ev.ifp (by omega) (ev_ite' (fun h => ?_) (fun h => ?_)))
   ·rw [if_pos h] at hl
    exact ih (i + 1) (by omega) (by omega)
   ·rw [if_neg h] at hl
    have : lowIdx l sku = i := by omega
    refine Ev.fin ?_
    unfold hitAt
    rw [this, decide_eq_true hi, Bool.true_and]
 exact key l.length 0 (by omega) (by simp)

def countFrom (l : List S79) (sku : Int) : Nat → Nat → Int → Int
 | 0, _, acc => acc
 | d + 1, i, acc => countFrom l sku d (i + 1) (acc + (stackOf (podAtN l i).f2 sku).f1)
def freeFrom (l : List S79) (sku : Int) : Nat → Nat → Int → Int
 | 0, _, acc => acc
 | d + 1, i, acc => freeFrom l sku d (i + 1) (acc + ((stackOf (podAtN l i).f2 sku).f1 - (stackOf (podAtN l i).f2 sku).f2))
def countOf (l : List S79) (sku : Int) : Int := if stockOk l = true then countFrom l sku l.length 0 0 else 0
def freeOf (l : List S79) (sku : Int) : Int := if stockOk l = true then freeFrom l sku l.length 0 0 else 0
theorem pods_len {l : List S79} (hok : stockOk l = true) : l.length ≤ 4194304 ∧ ∀ x ∈ l, x.f2.length ≤ 4194304 := by
 have f := stock_pods hok
 refine ⟨by omega, fun x hx => ?_⟩
 obtain ⟨j, hj, rfl⟩ := List.mem_iff_getElem.1 hx
 have := (f.2 j hj).len
 unfold podAtN at this
 rw [getD_at hj] at this; omega
theorem hit_facts {l : List S72} (h : stacksOk l = true) (sku : Int) : (hitAt l sku = true → lowIdx l sku < l.length ∧ stackAt l (lowIdx l sku) = stackOf l sku) ∧ (hitAt l sku = false → (stackOf l sku).f1 = 0 ∧ (stackOf l sku).f2 = 0) := by
 have f := hit_stack (sku := sku) (stacks_facts h).1
 refine ⟨fun e => ⟨?_, (f.1 e).1.symm⟩, fun e => by rw [(f.2 e).1]; exact ⟨rfl, rfl⟩⟩
 unfold hitAt at e
 rw [Bool.and_eq_true, decide_eq_true_eq] at e
 exact e.1
theorem impl_Count_l0 (l : List S79) (sku : Int) (hok : stockOk l = true) : ∀ (d i : Nat) (acc : Int), i + d = l.length → 0 ≤ acc → acc ≤ 1000 * (i : Int) → Ev (fun k => impl_Count.l0 k sku acc l l.length i) (countFrom l sku d i acc)
 | 0, i, acc, e, h0, h1 => Ev.unroll (by
   simp only [impl_Count.l0]
   exact Ev.ifn (by omega) (Ev.now _))
 | d + 1, i, acc, e, h0, h1 => Ev.unroll (by
   have f := stock_pods hok
   have fi := f.2 i (by omega)
   have b := stackOf_bounds fi.stacks sku
   have hf := hit_facts fi.stacks sku
   simp only [impl_Count.l0, rd_pod, wrap_sc (show i < 9223372036854775807 by omega)]
   refine Ev.ifp (by omega) (Ev.ifp (by omega) (Ev.ifp (by omega) (Ev.bind (impl_stackAt_f _ _ _ sku (by have := fi.len; omega)) ?_)))
   dsimp only
   unfold countFrom
   refine ev_ite' (fun h => ?_) (fun h => ?_)
   ·have h2 := hf.1 h
    simp only [rd_stack, h2.2]
    refine Ev.ifp (by omega) (Ev.ifp (by omega) ?_)
    rw [wrap_id (by omega) (by omega)]
    exact impl_Count_l0 l sku hok d (i + 1) _ (by omega) (by omega) (by omega)
   ·rw [Bool.not_eq_true] at h
    rw [(hf.2 h).1, Int.add_zero]
    exact impl_Count_l0 l sku hok d (i + 1) _ (by omega) (by omega) (by omega))
theorem impl_Count_f (l : List S79) (sku : Int) (hn : l.length ≤ 4194304) (hx : ∀ x ∈ l, x.f2.length ≤ 4194304) : Ev (fun k => impl_Count.f k l sku) (countOf l sku) := by
 unfold impl_Count.f countOf
 exact Ev.bind (impl_StockOk_f l hn hx) (ev_ite (fun hok => impl_Count_l0 l sku hok l.length 0 0 (by omega) (by omega) (by omega)) (fun _ => Ev.now _))
theorem impl_Free_l0 (l : List S79) (sku : Int) (hok : stockOk l = true) : ∀ (d i : Nat) (acc : Int), i + d = l.length → 0 ≤ acc → acc ≤ 1000 * (i : Int) → Ev (fun k => impl_Free.l0 k sku acc l l.length i) (freeFrom l sku d i acc)
 | 0, i, acc, e, h0, h1 => Ev.unroll (by
   simp only [impl_Free.l0]
   exact Ev.ifn (by omega) (Ev.now _))
 | d + 1, i, acc, e, h0, h1 => Ev.unroll (by
   have f := stock_pods hok
   have fi := f.2 i (by omega)
   have b := stackOf_bounds fi.stacks sku
   have hf := hit_facts fi.stacks sku
   simp only [impl_Free.l0, rd_pod, wrap_sc (show i < 9223372036854775807 by omega)]
   refine Ev.ifp (by omega) (Ev.ifp (by omega) (Ev.ifp (by omega) (Ev.bind (impl_stackAt_f _ _ _ sku (by have := fi.len; omega)) ?_)))
   dsimp only
   unfold freeFrom
   refine ev_ite' (fun h => ?_) (fun h => ?_)
   ·have h2 := hf.1 h
    simp only [rd_stack, h2.2]
    refine Ev.ifp (by omega) (Ev.ifp (by omega) ?_)
    rw [wrap_id (x := (stackOf (podAtN l i).f2 sku).f1 - (stackOf (podAtN l i).f2 sku).f2) (by omega) (by omega), wrap_id (by omega) (by omega)]
    exact impl_Free_l0 l sku hok d (i + 1) _ (by omega) (by omega) (by omega)
   ·rw [Bool.not_eq_true] at h
    rw [(hf.2 h).1, (hf.2 h).2, Int.sub_self, Int.add_zero]
    exact impl_Free_l0 l sku hok d (i + 1) _ (by omega) (by omega) (by omega))
theorem impl_Free_f (l : List S79) (sku : Int) (hn : l.length ≤ 4194304) (hx : ∀ x ∈ l, x.f2.length ≤ 4194304) : Ev (fun k => impl_Free.f k l sku) (freeOf l sku) := by
 unfold impl_Free.f freeOf
 exact Ev.bind (impl_StockOk_f l hn hx) (ev_ite (fun hok => impl_Free_l0 l sku hok l.length 0 0 (by omega) (by omega) (by omega)) (fun _ => Ev.now _))

theorem impl_copyStock_f (l : List S79) (hn : l.length ≤ 4194304) (hx : ∀ x ∈ l, x.f2.length ≤ 4194304) : Ev (fun k => impl_copyStock.f k l) l := by
 have key : ∀ (d i : Nat), i + d = l.length → Ev (fun k => impl_copyStock.l0 k l (l.length : Int) i (l.take i)) l := by
  intro d
  induction d with
  | zero =>
   intro i e
   refine Ev.unroll ?_
   simp only [impl_copyStock.l0]
   exact Ev.ifn (by omega) (Ev.fin (List.take_of_length_le (by omega)))
  | succ d ih =>
   intro i e
   have hi : i < l.length := by omega
   have hb := hx _ (List.getElem_mem hi)
   have e1 : podAtN l i = l[i] := by unfold podAtN; exact getD_at hi
   refine Ev.unroll ?_
   simp only [impl_copyStock.l0, rd_pod, e1, List.nil_append, List.length_nil, List.length_take, wrap_sc (show i < 9223372036854775807 by omega)]
   refine Ev.ifp (by omega) (Ev.ifp (by omega) (Ev.ifp (by omega) (Ev.ifp (by omega) (Ev.ifp (by omega) ?_))))
   have h := ih (i + 1) (by omega)
   rw [List.take_succ_eq_append_getElem hi] at h
   exact h
 exact key l.length 0 (by omega)
theorem spec_l5Copy_f (l : List S79) (hn : l.length ≤ 4194304) (hx : ∀ x ∈ l, x.f2.length ≤ 4194304) : Ev (fun k => spec_l5Copy.f k l) l := by
 have key : ∀ (d i : Nat), i + d = l.length → Ev (fun k => spec_l5Copy.l0 k i l (l.take i)) l := by
  intro d
  induction d with
  | zero =>
   intro i e
   refine Ev.unroll ?_
   simp only [spec_l5Copy.l0]
   exact Ev.ifn (by omega) (Ev.fin (List.take_of_length_le (by omega)))
  | succ d ih =>
   intro i e
   have hi : i < l.length := by omega
   have hb := hx _ (List.getElem_mem hi)
   have e1 : podAtN l i = l[i] := by unfold podAtN; exact getD_at hi
   refine Ev.unroll ?_
   simp only [spec_l5Copy.l0, rd_pod, e1, some_bind, List.nil_append, List.length_nil, List.length_take, wrap_sc (show i < 9223372036854775807 by omega)]
   refine Ev.ifp (by omega) (Ev.ifp (by omega) (Ev.ifp (by omega) (Ev.ifp (by omega) ?_)))
   have h := ih (i + 1) (by omega)
   rw [List.take_succ_eq_append_getElem hi] at h
   exact h
 exact key l.length 0 (by omega)
def podIdx (l : List S79) (id : Int) : Int := match l.findIdx? (fun p => p.f0 == id) with
 | some i => (i : Int)
 | none => -1
theorem podIdx_bounds (l : List S79) (id : Int) : -1 ≤ podIdx l id ∧ podIdx l id < l.length := by
 unfold podIdx
 cases e : l.findIdx? (fun p => p.f0 == id) with
 | none => show -1 ≤ (-1 : Int) ∧ (-1 : Int) < l.length; omega
 | some i =>
  have := (List.findIdx?_eq_some_iff_getElem.1 e).1
  show -1 ≤ (i : Int) ∧ (i : Int) < l.length; omega
theorem podIdx_cons (p : S79) (l : List S79) (id : Int) : podIdx (p :: l) id = if p.f0 = id then 0 else if podIdx l id = -1 then -1 else podIdx l id + 1 := by
 unfold podIdx
 rw [List.findIdx?_cons]
 by_cases h : p.f0 = id
 ·simp [h]
 ·have hb : (p.f0 == id) = false := by simpa using h
  rw [hb]
  cases e : l.findIdx? (fun p => p.f0 == id) with
  | none => simp [h]
  | some i => simp [h]
theorem impl_podAt_f (l : List S79) (id : Int) (hn : l.length ≤ 4194304) : Ev (fun k => impl_podAt.f k l id) (podIdx l id) := by
 have key : ∀ (d i : Nat), i + d = l.length → Ev (fun k => impl_podAt.l0 k id l (l.length : Int) i) (if podIdx (l.drop i) id = -1 then -1 else (i : Int) + podIdx (l.drop i) id) := by
  intro d
  induction d with
  | zero =>
   intro i e
   refine Ev.unroll ?_
   simp only [impl_podAt.l0]
   rw [drop_end (by omega)]
   exact Ev.ifn (by omega) (Ev.fin (by simp [podIdx]))
  | succ d ih =>
   intro i e
   have hi : i < l.length := by omega
   have e1 : podAtN l i = l[i] := by unfold podAtN; exact getD_at hi
   have hb := podIdx_bounds (l.drop (i + 1)) id
   refine Ev.unroll ?_
   simp only [impl_podAt.l0, rd_pod, e1, wrap_sc (show i < 9223372036854775807 by omega)]
   rw [drop_cons hi, podIdx_cons]
   refine Ev.ifp (by omega) (Ev.ifp (by omega) (Ev.ifp (by omega) (ev_ite' (fun h => Ev.fin ?_) (fun h => ?_))))
   ·rw [if_pos h, if_neg (by omega)]; omega
   ·have h2 := ih (i + 1) (by omega)
    rw [if_neg h]
    refine Ev.congr (fun _ => rfl) (r := _) ?_
    by_cases h3 : podIdx (l.drop (i + 1)) id = -1
    ·rw [if_pos h3] at h2; rw [if_pos h3, if_pos rfl]; exact h2
    ·rw [if_neg h3] at h2
     rw [if_neg h3, if_neg (by omega)]
     rw [show (i : Int) + (podIdx (l.drop (i + 1)) id + 1) = ((i + 1 : Nat) : Int) + podIdx (l.drop (i + 1)) id by omega]
     exact h2
 have h := key l.length 0 (by omega)
 rw [List.drop_zero] at h
 have hb := podIdx_bounds l id
 rw [show (if podIdx l id = -1 then (-1 : Int) else ((0 : Nat) : Int) + podIdx l id) = podIdx l id by split <;> omega] at h
 exact h
def askOk (l : List S79) (sku n : Int) : Bool := stockOk l && (inB sku 1 50 && inB n 1 1000)
def placeOf (l : List S79) (id sku n : Int) : Int × Int := if askOk l sku n = true then (if 0 ≤ podIdx l id then (podIdx l id, 0) else (-1, 2)) else (-1, 1)
theorem impl_place_f (l : List S79) (id sku n : Int) (hn : l.length ≤ 4194304) (hx : ∀ x ∈ l, x.f2.length ≤ 4194304) : Ev (fun k => impl_place.f k l id sku n) (placeOf l id sku n) := by
 have hj : Ev (fun k => impl_place.j0 k id false l) (if 0 ≤ podIdx l id then (podIdx l id, 0) else (-1, 2)) := by
  refine Ev.unroll ?_
  simp only [impl_place.j0]
  refine Ev.ifn (by decide) (Ev.bind (impl_podAt_f l id hn) ?_)
  by_cases h : 0 ≤ podIdx l id
  ·exact Ev.ifp h (Ev.fin (if_pos h).symm)
  ·exact Ev.ifn (by omega) (Ev.fin (if_neg h).symm)
 have hf : Ev (fun k => impl_place.j0 k id true l) (((-1 : Int), (1 : Int))) := by
  refine Ev.unroll ?_
  simp only [impl_place.j0]
  exact Ev.ifp (by first | rfl | trivial) (Ev.now _)
 unfold impl_place.f placeOf askOk
 refine Ev.bind (impl_StockOk_f l hn hx) ?_
 simp only [impl_in_f, some_bind]
 cases h1 : stockOk l
 ·simp only [Bool.false_and]; exact Ev.ifn (by decide) hf
 ·refine Ev.ifp (by first | rfl | trivial) ?_
  cases h2 : inB sku 1 50
  ·simp only [Bool.true_and, Bool.false_and]; exact Ev.ifn (by decide) hf
  ·refine Ev.ifp (by first | rfl | trivial) ?_
   cases h3 : inB n 1 1000
   ·exact hf
   ·exact hj
def heldOf (l : List S79) (id sku n more : Int) : List S79 × Int :=
 if askOk l sku n = true then (if 0 ≤ podIdx l id then
  (if hitAt (rd_T79 l (podIdx l id)).f2 sku = true ∧ 0 ≤ (stackOf (rd_T79 l (podIdx l id)).f2 sku).f2 + more ∧ (stackOf (rd_T79 l (podIdx l id)).f2 sku).f2 + more ≤ (stackOf (rd_T79 l (podIdx l id)).f2 sku).f1 then
   (l.set (podIdx l id).toNat ⟨(rd_T79 l (podIdx l id)).f0, (rd_T79 l (podIdx l id)).f1, (rd_T79 l (podIdx l id)).f2.set (lowIdx (rd_T79 l (podIdx l id)).f2 sku) ⟨sku, (stackOf (rd_T79 l (podIdx l id)).f2 sku).f1, (stackOf (rd_T79 l (podIdx l id)).f2 sku).f2 + more⟩⟩, 0)
  else (l, 3)) else (l, 2)) else (l, 1)
structure AskFacts (l : List S79) (id sku n : Int) : Prop where
 len : l.length ≤ 12
 idx : podIdx l id < l.length
 pod : podOk (rd_T79 l (podIdx l id)) = true
 st : stacksOk (rd_T79 l (podIdx l id)).f2 = true
 st8 : (rd_T79 l (podIdx l id)).f2.length ≤ 8
 sku : 1 ≤ sku ∧ sku ≤ 50
 n : 1 ≤ n ∧ n ≤ 1000
theorem ask_facts {l : List S79} {id sku n : Int} (h : askOk l sku n = true) (h0 : 0 ≤ podIdx l id) : AskFacts l id sku n := by
 unfold askOk at h
 simp only [Bool.and_eq_true, inB_iff] at h
 have hb := podIdx_bounds l id
 obtain ⟨i, hi⟩ : ∃ i : Nat, podIdx l id = (i : Int) := ⟨(podIdx l id).toNat, by omega⟩
 have hs := h.1
 unfold stockOk at hs
 simp only [Bool.and_eq_true, decide_eq_true_eq, allFrom_iff] at hs
 have hp := hs.2 i (by omega) (by omega)
 unfold podAtOk at hp
 simp only [Bool.and_eq_true] at hp
 have hq := hp.1
 have hq2 := hq
 unfold podOk at hq2
 simp only [Bool.and_eq_true, decide_eq_true_eq] at hq2
 rw [← rd_pod] at hq hq2
 rw [← hi] at hq hq2
 exact ⟨hs.1, hb.2, hq, hq2.2.2.2, hq2.2.2.1, h.2.1, h.2.2⟩
theorem impl_held_f (l : List S79) (id sku n more : Int) (hn : l.length ≤ 4194304) (hx : ∀ x ∈ l, x.f2.length ≤ 4194304) (hm : more = n ∨ more = -n) : Ev (fun k => impl_held.f k l id sku n more) (heldOf l id sku n more) := by
 unfold impl_held.f heldOf
 refine Ev.bind (impl_copyStock_f l hn hx) (Ev.bind (impl_place_f l id sku n hn hx) ?_)
 unfold placeOf
 by_cases ha : askOk l sku n = true
 ·rw [if_pos ha, if_pos ha]
  by_cases h0 : 0 ≤ podIdx l id
  ·have f := ask_facts ha h0
   rw [if_pos h0, if_pos h0]
   have hf := stackOf_bounds f.st sku
   have hh := hit_facts f.st sku
   have hs := hit_stack (sku := sku) (stacks_facts f.st).1
   refine Ev.ifp (by first | rfl | trivial) (Ev.ifp h0 (Ev.ifp f.idx (Ev.bind (impl_stackAt_f _ _ (rd_T79 l (podIdx l id)).f2 sku (by have := f.st8; omega)) ?_)))
   generalize hp : rd_T79 l (podIdx l id) = p at *
   have hfn := f.n
   cases hit : hitAt p.f2 sku
   ·refine Ev.ifn (by simp) (Ev.fin ?_)
    rw [if_neg (fun h => by cases h.1)]
   ·have h1 := hh.1 hit
    have h2 := hs.1 hit
    have e1 : rd_T72 p.f2 ((lowIdx p.f2 sku : Nat) : Int) = stackOf p.f2 sku := by rw [rd_stack]; exact h1.2
    have hw : wrap64 ((stackOf p.f2 sku).f2 + more) = (stackOf p.f2 sku).f2 + more := wrap_id (by omega) (by omega)
    refine Ev.ifp (by first | rfl | trivial) (Ev.ifp (by omega) (Ev.ifp (by omega) ?_))
    simp only [e1, impl_in_f, some_bind, hw, Int.toNat_natCast]
    by_cases hc : 0 ≤ (stackOf p.f2 sku).f2 + more ∧ (stackOf p.f2 sku).f2 + more ≤ (stackOf p.f2 sku).f1
    ·refine Ev.ifp (inB_iff.2 hc) (Ev.fin ?_)
     rw [if_pos (by exact ⟨by first | rfl | trivial, hc⟩), h2.2]
    ·refine Ev.ifn (fun h => hc (inB_iff.1 h)) (Ev.fin ?_)
     rw [if_neg (fun h => hc h.2)]
  ·rw [if_neg h0, if_neg h0]
   exact Ev.ifn (by decide) (Ev.now _)
 ·rw [if_neg ha, if_neg ha]
  exact Ev.ifn (by decide) (Ev.now _)
theorem impl_Hold_f (l : List S79) (id sku n : Int) (hn : l.length ≤ 4194304) (hx : ∀ x ∈ l, x.f2.length ≤ 4194304) : Ev (fun k => impl_Hold.f k l id sku n) (heldOf l id sku n n) := by
 unfold impl_Hold.f
 exact Ev.bind (impl_held_f l id sku n n hn hx (.inl rfl)) (Ev.now _)
theorem impl_Release_f (l : List S79) (id sku n : Int) (hn : l.length ≤ 4194304) (hx : ∀ x ∈ l, x.f2.length ≤ 4194304) : Ev (fun k => impl_Release.f k l id sku n) (heldOf l id sku n (-n)) := by
 unfold impl_Release.f
 simp only [impl_in_f, some_bind]
 cases h : inB n 1 1000
 ·refine Ev.ifn (by decide) (Ev.bind (impl_copyStock_f l hn hx) (Ev.fin ?_))
  unfold heldOf askOk
  rw [h, Bool.and_false, Bool.and_false, if_neg (by decide)]
 ·have hb := inB_iff.1 h
  rw [wrap_id (x := -n) (by omega) (by omega)]
  exact Ev.ifp rfl (Ev.bind (impl_held_f l id sku n (-n) hn hx (.inr rfl)) (Ev.now _))
theorem set_big {l : List S79} (h : l.length ≤ 4194304 ∧ ∀ x ∈ l, x.f2.length ≤ 4194304) (i : Nat) (p : S79) (hp : p.f2.length ≤ 4194304) : (l.set i p).length ≤ 4194304 ∧ ∀ x ∈ l.set i p, x.f2.length ≤ 4194304 :=
 ⟨by simpa using h.1, fun x hx => by
  rcases List.mem_or_eq_of_mem_set hx with hx | rfl
  ·exact h.2 x hx
  ·exact hp⟩

def takenStacks (s : List S72) (sku n : Int) : List S72 := if (stackOf s sku).f1 - n = 0 then s.take (lowIdx s sku) ++ s.drop (lowIdx s sku + 1) else s.set (lowIdx s sku) ⟨sku, (stackOf s sku).f1 - n, (stackOf s sku).f2 - n⟩
def takeOf (l : List S79) (id sku n : Int) : List S79 × Int :=
 if askOk l sku n = true then (if 0 ≤ podIdx l id then
  (if hitAt (rd_T79 l (podIdx l id)).f2 sku = true ∧ n ≤ (stackOf (rd_T79 l (podIdx l id)).f2 sku).f2 then
   (l.set (podIdx l id).toNat ⟨(rd_T79 l (podIdx l id)).f0, (rd_T79 l (podIdx l id)).f1, takenStacks (rd_T79 l (podIdx l id)).f2 sku n⟩, 0)
  else (l, 3)) else (l, 2)) else (l, 1)
theorem takeOf_len (l : List S79) (id sku n : Int) (hn : l.length ≤ 4194304) (hx : ∀ x ∈ l, x.f2.length ≤ 4194304) : (takeOf l id sku n).1.length ≤ 4194304 ∧ ∀ x ∈ (takeOf l id sku n).1, x.f2.length ≤ 4194304 := by
 unfold takeOf
 split
 ·split
  ·rename_i ha h0
   have f := ask_facts ha h0
   have h8 := f.st8
   split
   ·refine set_big ⟨hn, hx⟩ _ _ ?_
    unfold takenStacks
    dsimp only
    split
    ·simp only [List.length_append, List.length_take, List.length_drop]; omega
    ·simp only [List.length_set]; omega
   ·exact ⟨hn, hx⟩
  ·exact ⟨hn, hx⟩
 ·exact ⟨hn, hx⟩
theorem lowIdx_set (s : List S72) (sku : Int) (j : Nat) (x : S72) (hx : ∀ h : j < s.length, x.f0 = s[j].f0) : lowIdx (s.set j x) sku = lowIdx s sku := by
 induction s generalizing j with
 | nil => simp
 | cons y t ih =>
  cases j with
  | zero =>
   have := hx (by simp)
   simp only [List.getElem_cons_zero] at this
   rw [List.set_cons_zero, lowIdx_cons, lowIdx_cons, this]
  | succ j =>
   rw [List.set_cons_succ, lowIdx_cons, lowIdx_cons, ih j (fun h => by have := hx (by simp; omega); simpa using this)]
theorem podIdx_set (l : List S79) (id : Int) (j : Nat) (x : S79) (hx : ∀ h : j < l.length, x.f0 = l[j].f0) : podIdx (l.set j x) id = podIdx l id := by
 induction l generalizing j with
 | nil => simp
 | cons y t ih =>
  cases j with
  | zero =>
   have := hx (by simp)
   simp only [List.getElem_cons_zero] at this
   rw [List.set_cons_zero, podIdx_cons, podIdx_cons, this]
  | succ j =>
   rw [List.set_cons_succ, podIdx_cons, podIdx_cons, ih j (fun h => by have := hx (by simp; omega); simpa using this)]
theorem rd_pod_get {l : List S79} {i : Int} (h0 : 0 ≤ i) (h1 : i < l.length) : rd_T79 l i = l[i.toNat]'(by omega) := by
 unfold rd_T79; exact getD_at (by omega)
theorem rd_pod_set {l : List S79} {i : Int} (h0 : 0 ≤ i) (h1 : i < l.length) (p : S79) : rd_T79 (l.set i.toNat p) i = p := by
 unfold rd_T79
 rw [getD_at (by rw [List.length_set]; omega), List.getElem_set_self]
theorem impl_TakeOut_f (l : List S79) (id sku n : Int) (hn : l.length ≤ 4194304) (hx : ∀ x ∈ l, x.f2.length ≤ 4194304) : Ev (fun k => impl_TakeOut.f k l id sku n) (takeOf l id sku n) := by
 unfold impl_TakeOut.f
 refine Ev.bind (impl_Release_f l id sku n hn hx) ?_
 unfold heldOf takeOf
 by_cases ha : askOk l sku n = true
 ·rw [if_pos ha, if_pos ha]
  by_cases h0 : 0 ≤ podIdx l id
  ·have f := ask_facts ha h0
   rw [if_pos h0, if_pos h0]
   have hf := stackOf_bounds f.st sku
   have hh := hit_facts f.st sku
   have hs := hit_stack (sku := sku) (stacks_facts f.st).1
   have hfn := f.n
   have h8 := f.st8
   have hidx := f.idx
   have hg := rd_pod_get h0 f.idx
   generalize hp : rd_T79 l (podIdx l id) = p at *
   by_cases hc : hitAt p.f2 sku = true ∧ n ≤ (stackOf p.f2 sku).f2
   ·rw [if_pos (show hitAt p.f2 sku = true ∧ 0 ≤ (stackOf p.f2 sku).f2 + -n ∧ (stackOf p.f2 sku).f2 + -n ≤ (stackOf p.f2 sku).f1 from ⟨hc.1, by omega, by omega⟩), if_pos hc]
    have h1 := hh.1 hc.1
    have h2 := hs.1 hc.1
    have ei : podIdx (l.set (podIdx l id).toNat ⟨p.f0, p.f1, p.f2.set (lowIdx p.f2 sku) ⟨sku, (stackOf p.f2 sku).f1, (stackOf p.f2 sku).f2 + -n⟩⟩) id = podIdx l id := podIdx_set l id _ _ (fun h => by rw [hg])
    have er := rd_pod_set h0 hidx ⟨p.f0, p.f1, p.f2.set (lowIdx p.f2 sku) ⟨sku, (stackOf p.f2 sku).f1, (stackOf p.f2 sku).f2 + -n⟩⟩
    have el : lowIdx (p.f2.set (lowIdx p.f2 sku) ⟨sku, (stackOf p.f2 sku).f1, (stackOf p.f2 sku).f2 + -n⟩) sku = lowIdx p.f2 sku := lowIdx_set _ _ _ _ (fun h => by
     have e9 : stackOf p.f2 sku = p.f2[lowIdx p.f2 sku] := by rw [h2.1]; unfold stackAt; exact getD_at h
     show sku = (p.f2[lowIdx p.f2 sku]).f0
     rw [← e9]; exact h2.2.symm)
    have es : rd_T72 (p.f2.set (lowIdx p.f2 sku) ⟨sku, (stackOf p.f2 sku).f1, (stackOf p.f2 sku).f2 + -n⟩) ((lowIdx p.f2 sku : Nat) : Int) = ⟨sku, (stackOf p.f2 sku).f1, (stackOf p.f2 sku).f2 + -n⟩ := by
     rw [rd_stack]; unfold stackAt
     rw [getD_at (by rw [List.length_set]; exact h1.1), List.getElem_set_self]
    refine Ev.ifp (by first | rfl | trivial) (Ev.bind (impl_podAt_f _ id (by simpa using hn)) ?_)
    rw [ei]
    refine Ev.ifp h0 (Ev.ifp (by simpa using hidx) ?_)
    rw [er]
    refine Ev.bind (impl_stackAt_f _ _ _ sku (by simp only [List.length_set]; omega)) ?_
    rw [el]
    refine Ev.ifp (by omega) (Ev.ifp (by simp only [List.length_set]; omega) (Ev.const ?_))
    unfold impl_TakeOut.g takenStacks
    simp only [er, es, wrap_id (x := (stackOf p.f2 sku).f1 - n) (by omega) (by omega), Int.toNat_natCast, List.length_set, wrap_sc (show lowIdx p.f2 sku < 9223372036854775807 by omega), List.set_set]
    by_cases hz : (stackOf p.f2 sku).f1 - n = 0
    ·rw [if_pos hz, if_pos hz, if_pos (by omega), if_pos (by omega), if_pos (by omega)]
     congr 3
     rw [List.nil_append, List.take_set_of_le (Nat.le_refl _), List.drop_set_of_lt (by omega)]
    ·rw [if_neg hz, if_neg hz, Int.sub_eq_add_neg]
     rfl
   ·rw [if_neg (fun h => hc ⟨h.1, by omega⟩), if_neg hc]
    exact Ev.ifn (by simp) (Ev.now _)
  ·rw [if_neg h0, if_neg h0]
   exact Ev.ifn (by simp) (Ev.now _)
 ·rw [if_neg ha, if_neg ha]
  exact Ev.ifn (by simp) (Ev.now _)
def BigS (l : List S79) : Prop := l.length ≤ 4194304 ∧ ∀ x ∈ l, x.f2.length ≤ 4194304
def eachOf (O : List S79 → Int → Int → Int → List S79 × Int) (s : List S79) : List S50 → List S79 → List S79 × Bool
 | [], out => (out, true)
 | p :: ps, out => if (O out p.f0 p.f1 p.f2).2 = 0 then eachOf O s ps (O out p.f0 p.f1 p.f2).1 else (s, false)
theorem eachOf_big {O : List S79 → Int → Int → Int → List S79 × Int} (hO : ∀ l a b c, BigS l → BigS (O l a b c).1) {s : List S79} (hs : BigS s) : ∀ (ps : List S50) (out : List S79), BigS out → BigS (eachOf O s ps out).1
 | [], out, h => h
 | p :: ps, out, h => by
  unfold eachOf
  split
  ·exact eachOf_big hO hs ps _ (hO _ _ _ _ h)
  ·exact hs
theorem heldOf_big (l : List S79) (id sku n more : Int) (h : BigS l) : BigS (heldOf l id sku n more).1 := by
 unfold heldOf
 split
 ·split
  ·rename_i ha h0
   have f := ask_facts ha h0
   split
   ·refine ⟨by simp only [List.length_set]; exact h.1, fun x hx => ?_⟩
    rcases List.mem_or_eq_of_mem_set hx with hx | rfl
    ·exact h.2 x hx
    ·have := f.st8; simp only [List.length_set]; omega
   ·exact h
  ·exact h
 ·exact h
theorem takeOf_big (l : List S79) (id sku n : Int) (h : BigS l) : BigS (takeOf l id sku n).1 := takeOf_len l id sku n h.1 h.2
def opOf (a : Int) : List S79 → Int → Int → Int → List S79 × Int := fun l id sku n => if a = 1 then heldOf l id sku n n else if a = 2 then heldOf l id sku n (-n) else takeOf l id sku n
theorem opOf_big (a : Int) (l : List S79) (id sku n : Int) (h : BigS l) : BigS (opOf a l id sku n).1 := by
 unfold opOf
 split
 ·exact heldOf_big l id sku n _ h
 ·split
  ·exact heldOf_big l id sku n _ h
  ·exact takeOf_big l id sku n h
def SmS (l : List S79) : Prop := l.length ≤ 100 ∧ ∀ x ∈ l, x.f2.length ≤ 100
theorem SmS.big {l : List S79} (h : SmS l) : BigS l := ⟨by have := h.1; omega, fun x hx => by have := h.2 x hx; omega⟩
theorem l5Draw_l1_ok (b : List Int) (hb : b.length ≤ 1048576) (id : Nat) (hid : id < 6)
  (K : ∀ (l : List S79) (i s : Int), 0 ≤ i → l.length ≤ id + 1 → (∀ x ∈ l, x.f2.length ≤ 10) → ∃ (r : List S79) (i' s' : Int), Ev (fun k => spec_l5Draw.l0 k ((id + 1 : Nat) : Int) b i s l) (r, i', s') ∧ 0 ≤ i' ∧ r.length ≤ 10 ∧ ∀ x ∈ r, x.f2.length ≤ 10) :
  ∀ (d j : Nat) (i s p0 p1 : Int) (l : List S79) (st : List S72), j + d = 6 → 0 ≤ i → l.length ≤ id → (∀ x ∈ l, x.f2.length ≤ 10) → st.length ≤ j → ∃ (r : List S79) (i' s' : Int), Ev (fun k => spec_l5Draw.l1 k id j b i s l p0 p1 st) (r, i', s') ∧ 0 ≤ i' ∧ r.length ≤ 10 ∧ ∀ x ∈ r, x.f2.length ≤ 10 := by
 intro d
 induction d with
 | zero =>
  intro j i s p0 p1 l st e hi hl hx hs
  obtain ⟨r, i', s', er, h⟩ := K (l ++ [⟨p0, p1, st⟩]) i s hi (by simp; omega) (fun x hx2 => by
   rcases List.mem_append.1 hx2 with h | h
   ·exact hx x h
   ·have : x = ⟨p0, p1, st⟩ := by simpa using h
    subst this; show st.length ≤ 10; omega)
  refine ⟨r, i', s', Ev.unroll ?_, h⟩
  simp only [spec_l5Draw.l1, wrap_sc (show id < 9223372036854775807 by omega)]
  exact Ev.ifn (by omega) (Ev.ifp (by omega) er)
 | succ d ih =>
  intro j i s p0 p1 l st e hi hl hx hs
  obtain ⟨v, i1, s1, e1, hi1, hv⟩ := l1Int_ok b i s [0, 0, 1, 3, 5, 12] hi hb (by decide) (by decide)
  have hv2 : v ≤ 12 := by simp at hv; omega
  by_cases h0 : v > 0
  ·obtain ⟨y, i2, s2, e2, hi2, _⟩ := l1Below_ok b i1 s1 (wrap64 (v + 1)) hi1 hb
   obtain ⟨z, i3, s3, e3, hi3, _⟩ := l1Int_ok b i2 s2 [0, 0, 0, y] hi2 hb (by simp) (by simp)
   obtain ⟨r, i', s', er, h⟩ := ih (j + 1) i3 s3 p0 p1 l (st ++ [⟨(j : Int), v, z⟩]) (by omega) hi3 hl hx (by simp; omega)
   refine ⟨r, i', s', Ev.unroll ?_, h⟩
   simp only [spec_l5Draw.l1, e1, some_bind, e2, e3, wrap_sc (show j < 9223372036854775807 by omega)]
   exact Ev.ifp (by omega) (Ev.ifp h0 (Ev.ifp (by omega) er))
  ·obtain ⟨r, i', s', er, h⟩ := ih (j + 1) i1 s1 p0 p1 l st (by omega) hi1 hl hx (by omega)
   refine ⟨r, i', s', Ev.unroll ?_, h⟩
   simp only [spec_l5Draw.l1, e1, some_bind, wrap_sc (show j < 9223372036854775807 by omega)]
   exact Ev.ifp (by omega) (Ev.ifn h0 er)
theorem l5Draw_l0_ok (b : List Int) (hb : b.length ≤ 1048576) : ∀ (d id : Nat) (i s : Int) (l : List S79), id + d = 6 → 0 ≤ i → l.length ≤ id → (∀ x ∈ l, x.f2.length ≤ 10) → ∃ (r : List S79) (i' s' : Int), Ev (fun k => spec_l5Draw.l0 k id b i s l) (r, i', s') ∧ 0 ≤ i' ∧ r.length ≤ 10 ∧ ∀ x ∈ r, x.f2.length ≤ 10 := by
 intro d
 induction d with
 | zero =>
  intro id i s l e hi hl hx
  refine ⟨l, i, s, Ev.unroll ?_, hi, by omega, hx⟩
  simp only [spec_l5Draw.l0]
  exact Ev.ifn (by omega) (Ev.now _)
 | succ d ih =>
  intro id i s l e hi hl hx
  obtain ⟨y, i1, s1, e1, hi1⟩ := l1Once_ok b i s 4 hi hb
  cases y with
  | true =>
   obtain ⟨r, i', s', er, h⟩ := ih (id + 1) i1 s1 l (by omega) hi1 (by omega) hx
   refine ⟨r, i', s', Ev.unroll ?_, h⟩
   simp only [spec_l5Draw.l0, e1, some_bind, wrap_sc (show id < 9223372036854775807 by omega)]
   exact Ev.ifp (by omega) (Ev.ifp trivial er)
  | false =>
   obtain ⟨r, i', s', er, h⟩ := l5Draw_l1_ok b hb id (by omega) (fun l i s h1 h2 h3 => ih (id + 1) i s l (by omega) h1 h2 h3) 5 1 i1 s1 (wrap64 ((id : Int) * 10)) (wrap64 (20 - (id : Int))) l [] (by omega) hi1 hl hx (by simp)
   refine ⟨r, i', s', Ev.unroll ?_, h⟩
   simp only [spec_l5Draw.l0, e1, some_bind]
   exact Ev.ifp (by omega) (Ev.ifn (by decide) er)
theorem l5Draw_ok (b : List Int) (hb : b.length ≤ 1048576) (i s : Int) (hi : 0 ≤ i) : ∃ (r : List S79) (i' s' : Int), Ev (fun k => spec_l5Draw.f k b i s) (r, i', s') ∧ 0 ≤ i' ∧ r.length ≤ 10 ∧ ∀ x ∈ r, x.f2.length ≤ 10 :=
 l5Draw_l0_ok b hb 5 1 i s [] (by omega) hi (by simp) (by simp)
theorem l5Bend_ok (b : List Int) (hb : b.length ≤ 1048576) (i s : Int) (hi : 0 ≤ i) (l : List S79) (hl : l.length ≤ 10) (hx : ∀ x ∈ l, x.f2.length ≤ 10) : ∃ (r : List S79) (i' s' : Int), Ev (fun k => spec_l5Bend.f k b i s l) (r, i', s') ∧ 0 ≤ i' ∧ SmS r := by
 have hc := spec_l5Copy_f l (by omega) (fun x h => by have := hx x h; omega)
 have h0 : SmS l := ⟨by omega, fun x h => by have := hx x h; omega⟩
 unfold spec_l5Bend.f
 by_cases c0 : (l.length : Int) = 0
 ·exact ⟨l, i, s, Ev.bind hc (Ev.ifp c0 (Ev.now _)), hi, h0⟩
 ·obtain ⟨x, i1, s1, e1, hi1, x0, x1, _⟩ := l1Below_ok b i s (l.length : Int) hi hb
  have x1 := x1 (by omega)
  obtain ⟨y, i2, s2, e2, hi2, y0, y1, _⟩ := l1Below_ok b i1 s1 6 hi1 hb
  have er : (rd_T79 l x).f2.length ≤ 10 := by
   unfold rd_T79
   rw [getD_at (show x.toNat < l.length by omega)]
   exact hx _ (List.getElem_mem _)
  have st : ∀ p : S79, p.f2.length ≤ 100 → SmS (l.set x.toNat p) := fun p hp => ⟨by rw [List.length_set]; omega, fun z hz => by
   rcases List.mem_or_eq_of_mem_set hz with h | rfl
   ·exact h0.2 z h
   ·exact hp⟩
  by_cases c1 : y = 0
  ·obtain ⟨z, i3, s3, e3, hi3, _⟩ := l1Int_ok b i2 s2 [0, 1000, 10] hi2 hb (by simp) (by simp)
   refine ⟨_, i3, s3, Ev.bind hc (Ev.ifn c0 ?_), hi3, st ⟨z, (rd_T79 l x).f1, (rd_T79 l x).f2⟩ (by show (rd_T79 l x).f2.length ≤ 100; omega)⟩
   simp only [e1, e2, some_bind]
   refine Ev.ifp c1 ?_
   simp only [e3, some_bind]
   exact Ev.ifp x0 (Ev.ifp x1 (Ev.now _))
  ·by_cases c2 : y = 1
   ·obtain ⟨z, i3, s3, e3, hi3, _⟩ := l1Int_ok b i2 s2 [(-1), 100, 19] hi2 hb (by simp) (by simp)
    refine ⟨_, i3, s3, Ev.bind hc (Ev.ifn c0 ?_), hi3, st ⟨(rd_T79 l x).f0, z, (rd_T79 l x).f2⟩ (by show (rd_T79 l x).f2.length ≤ 100; omega)⟩
    simp only [e1, e2, some_bind]
    refine Ev.ifn c1 (Ev.ifp c2 ?_)
    simp only [e3, some_bind]
    exact Ev.ifp x0 (Ev.ifp x1 (Ev.now _))
   ·by_cases c3 : y = 2
    ·obtain ⟨z, i3, s3, e3, hi3, _⟩ := l1Int_ok b i2 s2 [0, 1, 1001] hi2 hb (by simp) (by simp)
     obtain ⟨u, i4, s4, e4, hi4, _⟩ := l1Below_ok b i3 s3 3 hi3 hb
     refine ⟨_, i4, s4, Ev.bind hc (Ev.ifn c0 ?_), hi4, st ⟨(rd_T79 l x).f0, (rd_T79 l x).f1, (rd_T79 l x).f2 ++ [⟨9, z, u⟩]⟩ (by show ((rd_T79 l x).f2 ++ [_]).length ≤ 100; simp; omega)⟩
     simp only [e1, e2, some_bind]
     refine Ev.ifn c1 (Ev.ifn c2 (Ev.ifp c3 (Ev.ifp x0 (Ev.ifp x1 ?_))))
     simp only [e3, e4, some_bind]
     exact Ev.ifp (by omega) (Ev.now _)
    ·by_cases c4 : y = 3
     ·refine ⟨l ++ [⟨(rd_T79 l 0).f0, (rd_T79 l 0).f1, (rd_T79 l 0).f2⟩], i2, s2, Ev.bind hc (Ev.ifn c0 ?_), hi2, by simp; omega, fun z hz => ?_⟩
      ·simp only [e1, e2, some_bind]
       exact Ev.ifn c1 (Ev.ifn c2 (Ev.ifn c3 (Ev.ifp c4 (Ev.ifp (by omega) (Ev.ifp (by omega) (Ev.now _))))))
      ·rcases List.mem_append.1 hz with h | h
       ·exact h0.2 z h
       ·have : z = ⟨(rd_T79 l 0).f0, (rd_T79 l 0).f1, (rd_T79 l 0).f2⟩ := by simpa using h
        subst this
        show (rd_T79 l 0).f2.length ≤ 100
        unfold rd_T79
        rw [getD_at (show (0 : Int).toNat < l.length by simp; omega)]
        exact h0.2 _ (List.getElem_mem _)
     ·refine ⟨l, i2, s2, Ev.bind hc (Ev.ifn c0 ?_), hi2, h0⟩
      simp only [e1, e2, some_bind]
      exact Ev.ifn c1 (Ev.ifn c2 (Ev.ifn c3 (Ev.ifn c4 (Ev.now _))))
theorem l5DrawAny_ok (b : List Int) (hb : b.length ≤ 1048576) (i s : Int) (hi : 0 ≤ i) : ∃ (r : List S79) (i' s' : Int), Ev (fun k => spec_l5DrawAny.f k b i s) (r, i', s') ∧ 0 ≤ i' ∧ SmS r := by
 unfold spec_l5DrawAny.f
 obtain ⟨l, i1, s1, e1, hi1, hl, hx⟩ := l5Draw_ok b hb i s hi
 obtain ⟨y, i2, s2, e2, hi2⟩ := l1Once_ok b i1 s1 8 hi1 hb
 cases y with
 | true =>
  obtain ⟨r, i3, s3, e3, hi3, h3⟩ := l5Bend_ok b hb i2 s2 hi2 l hl hx
  refine ⟨r, i3, s3, Ev.bind e1 ?_, hi3, h3⟩
  simp only [e2, some_bind]
  exact Ev.ifp trivial (Ev.bind e3 (Ev.now _))
 | false =>
  refine ⟨l, i2, s2, Ev.bind e1 ?_, hi2, by omega, fun x h => by have := hx x h; omega⟩
  simp only [e2, some_bind]
  exact Ev.ifn (by decide) (Ev.now _)
theorem sameStock_f (l : List S79) (h : BigS l) : Ev (fun k => laws_sameStock.f k l l) true := by
 have inner : ∀ (i : Nat), i < l.length → (Ev (fun k => laws_sameStock.l0 k ((i + 1 : Nat) : Int) l l) true) → ∀ (d j : Nat) (p0 p1 q0 q1 : Int) (st : List S72), j + d = st.length → st.length ≤ 4194304 → Ev (fun k => laws_sameStock.l1 k i j l l p0 p1 st q0 q1 st) true := by
  intro i hi K d
  induction d with
  | zero =>
   intro j p0 p1 q0 q1 st e hst
   refine Ev.unroll ?_
   simp only [laws_sameStock.l1, wrap_sc (show i < 9223372036854775807 by have := h.1; omega)]
   exact Ev.ifn (by omega) K
  | succ d ih =>
   intro j p0 p1 q0 q1 st e hst
   refine Ev.unroll ?_
   simp only [laws_sameStock.l1, wrap_sc (show j < 9223372036854775807 by omega), beq_self_eq_true, Bool.not_true, Bool.or_self]
   exact Ev.ifp (by omega) (Ev.ifp (by omega) (Ev.ifp (by omega) (Ev.ifn (by decide) (ih (j + 1) p0 p1 q0 q1 st (by omega) hst))))
 have outer : ∀ (d i : Nat), i + d = l.length → Ev (fun k => laws_sameStock.l0 k i l l) true := by
  intro d
  induction d with
  | zero =>
   intro i e
   refine Ev.unroll ?_
   simp only [laws_sameStock.l0]
   exact Ev.ifn (by omega) (Ev.now _)
  | succ d ih =>
   intro i e
   have hi : i < l.length := by omega
   have hb : (podAtN l i).f2.length ≤ 4194304 := by unfold podAtN; rw [getD_at hi]; exact h.2 _ (List.getElem_mem hi)
   refine Ev.unroll ?_
   simp only [laws_sameStock.l0, rd_pod]
   refine Ev.ifp (by omega) (Ev.ifp (by omega) (Ev.ifp (by omega) (Ev.ifp (by trivial) (Ev.ifp (by trivial) (Ev.unroll ?_)))))
   simp only [laws_sameStock.j1, bne_self_eq_false]
   exact Ev.ifn (by decide) (inner i hi (ih (i + 1) (by omega)) _ 0 _ _ _ _ _ (by rw [Nat.zero_add]) hb)
 unfold laws_sameStock.f
 exact Ev.ifp rfl (outer l.length 0 (by omega))
theorem stock_bounds {l : List S79} (h : stockOk l = true) (k : Int) : 0 ≤ freeOf l k ∧ freeOf l k ≤ 12000 ∧ 0 ≤ countOf l k ∧ countOf l k ≤ 12000 := by
 have f := stock_pods h
 have hf : ∀ (d i : Nat) (acc : Int), i + d = l.length → 0 ≤ acc → acc ≤ 1000 * (i : Int) → 0 ≤ freeFrom l k d i acc ∧ freeFrom l k d i acc ≤ 1000 * (l.length : Int) := by
  intro d
  induction d with
  | zero => intro i acc e h0 h1; unfold freeFrom; omega
  | succ d ih =>
   intro i acc e h0 h1
   have b := stackOf_bounds (f.2 i (by omega)).stacks k
   unfold freeFrom
   exact ih (i + 1) _ (by omega) (by omega) (by omega)
 have hc : ∀ (d i : Nat) (acc : Int), i + d = l.length → 0 ≤ acc → acc ≤ 1000 * (i : Int) → 0 ≤ countFrom l k d i acc ∧ countFrom l k d i acc ≤ 1000 * (l.length : Int) := by
  intro d
  induction d with
  | zero => intro i acc e h0 h1; unfold countFrom; omega
  | succ d ih =>
   intro i acc e h0 h1
   have b := stackOf_bounds (f.2 i (by omega)).stacks k
   unfold countFrom
   exact ih (i + 1) _ (by omega) (by omega) (by omega)
 have h1 := hf l.length 0 0 (by omega) (by omega) (by omega)
 have h2 := hc l.length 0 0 (by omega) (by omega) (by omega)
 have h3 := f.1
 unfold freeOf countOf
 rw [if_pos h, if_pos h]
 omega

theorem l6Items_ok (b : List Int) (hb : b.length ≤ 1048576) (i s : Int) (hi : 0 ≤ i) : ∃ (r : List S48) (i' s' : Int), Ev (fun k => spec_l6Items.f k b i s) (r, i', s') ∧ 0 ≤ i' ∧ r.length ≤ 10 := by
 have key : ∀ (d j : Nat) (i s : Int) (l : List S48), j + d = 6 → 0 ≤ i → l.length ≤ j → ∃ (r : List S48) (i' s' : Int), Ev (fun k => spec_l6Items.l0 k l j b i s) (r, i', s') ∧ 0 ≤ i' ∧ r.length ≤ 10 := by
  intro d
  induction d with
  | zero =>
   intro j i s l e hi hl
   refine ⟨l, i, s, Ev.unroll ?_, hi, by omega⟩
   simp only [spec_l6Items.l0]
   exact Ev.ifn (by omega) (Ev.now _)
  | succ d ih =>
   intro j i s l e hi hl
   obtain ⟨y, i1, s1, e1, hi1⟩ := l1Once_ok b i s 4 hi hb
   cases y with
   | true =>
    obtain ⟨v, i2, s2, e2, hi2, _⟩ := l1Int_ok b i1 s1 [1, 1, 1, 2, 3, 9] hi1 hb (by simp) (by simp)
    obtain ⟨r, i', s', er, h⟩ := ih (j + 1) i2 s2 (l ++ [⟨(j : Int), v⟩]) (by omega) hi2 (by simp; omega)
    refine ⟨r, i', s', Ev.unroll ?_, h⟩
    simp only [spec_l6Items.l0, e1, e2, some_bind, wrap_sc (show j < 9223372036854775807 by omega)]
    exact Ev.ifp (by omega) (Ev.ifp trivial (Ev.ifp (by omega) er))
   | false =>
    obtain ⟨r, i', s', er, h⟩ := ih (j + 1) i1 s1 l (by omega) hi1 (by omega)
    refine ⟨r, i', s', Ev.unroll ?_, h⟩
    simp only [spec_l6Items.l0, e1, some_bind, wrap_sc (show j < 9223372036854775807 by omega)]
    exact Ev.ifp (by omega) (Ev.ifn (by decide) er)
 exact key 5 1 i s [] (by omega) hi (by simp)
theorem l6ItemsAny_ok (b : List Int) (hb : b.length ≤ 1048576) (i s : Int) (hi : 0 ≤ i) : ∃ (r : List S48) (i' s' : Int), Ev (fun k => spec_l6ItemsAny.f k b i s) (r, i', s') ∧ 0 ≤ i' ∧ r.length ≤ 20 := by
 unfold spec_l6ItemsAny.f
 obtain ⟨r, i1, s1, e1, hi1, hr⟩ := l6Items_ok b hb i s hi
 obtain ⟨y, i2, s2, e2, hi2, _⟩ := l1Below_ok b i1 s1 10 hi1 hb
 by_cases c : y = 0
 ·obtain ⟨u, i3, s3, e3, hi3, _⟩ := l1Int_ok b i2 s2 [0, 1, 50, 51] hi2 hb (by simp) (by simp)
  obtain ⟨v, i4, s4, e4, hi4, _⟩ := l1Int_ok b i3 s3 [0, 1, 1001] hi3 hb (by simp) (by simp)
  refine ⟨r ++ [⟨u, v⟩], i4, s4, Ev.bind e1 ?_, hi4, by simp; omega⟩
  simp only [e2, some_bind]
  refine Ev.ifp c ?_
  simp only [e3, e4, some_bind]
  exact Ev.ifp (by omega) (Ev.now _)
 ·refine ⟨r, i2, s2, Ev.bind e1 ?_, hi2, by omega⟩
  simp only [e2, some_bind]
  exact Ev.ifn c (Ev.now _)

theorem impl_hasInt_l0 (xs : List Int) (x : Int) (hn : xs.length ≤ BIG) : ∀ (d i : Nat), i + d = xs.length → Ev (fun k => impl_hasInt.l0 k x xs xs.length i) ((xs.drop i).contains x)
 | 0, i, h => Ev.unroll (by
   simp only [impl_hasInt.l0]
   simp only [if_neg (show ¬ (i : Int) < xs.length by omega)]
   exact Ev.fin (by rw [drop_end (by omega)]; rfl))
 | d + 1, i, h => Ev.unroll (by
   have hi : i < xs.length := by omega
   simp only [impl_hasInt.l0]
   simp only [if_pos (show (i : Int) < xs.length by omega), if_pos (show (0 : Int) ≤ i by omega), wrap_succ hi hn, rd_nat hi]
   rw [drop_cons hi, List.contains_cons]
   by_cases h1 : xs[i] = x
   ·simp only [if_pos h1]
    exact Ev.fin (by rw [h1]; simp)
   ·simp only [if_neg h1]
    rw [show (x == xs[i]) = false by simpa using fun e => h1 e.symm, Bool.false_or]
    exact impl_hasInt_l0 xs x hn d (i + 1) (by omega))
theorem impl_hasInt_f (xs : List Int) (x : Int) (hn : xs.length ≤ BIG) : Ev (fun k => impl_hasInt.f k xs x) (xs.contains x) := impl_hasInt_l0 xs x hn xs.length 0 (by omega)

def podsStep (acc : List Int) (p : S50) : List Int := if acc.contains p.f0 then acc else acc ++ [p.f0]
def podsOf (xs : List S50) : List Int := xs.foldl podsStep []
theorem impl_PodsOf_l0 (xs : List S50) (hn : xs.length ≤ 1048576) : ∀ (d i : Nat) (acc : List Int), i + d = xs.length → acc.length ≤ i → Ev (fun k => impl_PodsOf.l0 k acc xs xs.length i) ((xs.drop i).foldl podsStep acc)
 | 0, i, acc, h, ha => Ev.unroll (by
   simp only [impl_PodsOf.l0]
   simp only [if_neg (show ¬ (i : Int) < xs.length by omega)]
   exact Ev.fin (by rw [drop_end (by omega)]; rfl))
 | d + 1, i, acc, h, ha => Ev.unroll (by
   have hi : i < xs.length := by omega
   simp only [impl_PodsOf.l0]
   simp only [if_pos (show (i : Int) < xs.length by omega), if_pos (show (0 : Int) ≤ i by omega), wrap_succ hi (show _ ≤ BIG by unfold BIG; omega), rd_T50, Int.toNat_natCast, getD_at hi]
   rw [drop_cons hi, List.foldl_cons]
   refine Ev.bind (impl_hasInt_f acc _ (by unfold BIG; omega)) ?_
   by_cases h1 : acc.contains xs[i].f0 = true
   ·simp only [if_pos h1]
    rw [show podsStep acc xs[i] = acc by unfold podsStep; rw [if_pos h1]]
    exact impl_PodsOf_l0 xs hn d (i + 1) acc (by omega) (by omega)
   ·simp only [if_neg h1, if_pos (show acc.length < 17592186044416 by omega)]
    rw [show podsStep acc xs[i] = acc ++ [xs[i].f0] by unfold podsStep; rw [if_neg h1]]
    exact impl_PodsOf_l0 xs hn d (i + 1) _ (by omega) (by simp; omega))
theorem impl_PodsOf_f (xs : List S50) (hn : xs.length ≤ 1048576) : Ev (fun k => impl_PodsOf.f k xs) (podsOf xs) := impl_PodsOf_l0 xs hn xs.length 0 [] (by omega) (by simp)

theorem podsStep_mem (acc : List Int) (p : S50) (x : Int) : x ∈ podsStep acc p ↔ x ∈ acc ∨ x = p.f0 := by
 unfold podsStep
 split
 ·rename_i h
  rw [List.contains_iff_mem] at h
  constructor
  ·exact .inl
  ·rintro (h2 | rfl)
   ·exact h2
   ·exact h
 ·simp
theorem pods_mem : ∀ (xs : List S50) (acc : List Int) (x : Int), x ∈ xs.foldl podsStep acc ↔ x ∈ acc ∨ ∃ p ∈ xs, p.f0 = x
 | [], acc, x => by simp
 | p :: t, acc, x => by
  rw [List.foldl_cons, pods_mem t, podsStep_mem]
  constructor
  ·rintro ((h | rfl) | ⟨q, hq, rfl⟩)
   ·exact .inl h
   ·exact .inr ⟨p, List.mem_cons_self, rfl⟩
   ·exact .inr ⟨q, List.mem_cons_of_mem _ hq, rfl⟩
  ·rintro (h | ⟨q, hq, rfl⟩)
   ·exact .inl (.inl h)
   ·rcases List.mem_cons.1 hq with rfl | hq
    ·exact .inl (.inr rfl)
    ·exact .inr ⟨q, hq, rfl⟩
theorem pods_nodup : ∀ (xs : List S50) (acc : List Int), acc.Nodup → (xs.foldl podsStep acc).Nodup
 | [], acc, h => h
 | p :: t, acc, h => by
  rw [List.foldl_cons]
  refine pods_nodup t _ ?_
  unfold podsStep
  split
  ·exact h
  ·rename_i hc
   rw [List.contains_iff_mem] at hc
   rw [List.nodup_append]
   exact ⟨h, by simp, fun a ha b hb => by
    have : b = p.f0 := by simpa using hb
    subst this
    rintro rfl
    exact hc ha⟩
theorem nodup_le : ∀ (a b : List Int), a.Nodup → (∀ x ∈ a, x ∈ b) → a.length ≤ b.length
 | [], b, _, _ => by simp
 | x :: t, b, h, hs => by
  have hx := hs x List.mem_cons_self
  have hn := List.nodup_cons.1 h
  have ih := nodup_le t (b.erase x) hn.2 (fun y hy => by
   have : y ≠ x := fun e => hn.1 (e ▸ hy)
   exact (List.mem_erase_of_ne this).2 (hs y (List.mem_cons_of_mem _ hy)))
  have hl := List.length_erase_of_mem hx
  have := List.length_pos_of_mem hx
  simp only [List.length_cons]
  omega

def av (p : S79) (sku : Int) : Int := (stackOf p.f2 sku).f1 - (stackOf p.f2 sku).f2
def tak (p : S79) (it : S48) : Int := if av p it.f0 < it.f1 then av p it.f0 else it.f1
def couldL (p : S79) : List S48 → List S50
 | [] => []
 | it :: t => if 0 < tak p it then ⟨p.f0, it.f0, tak p it⟩ :: couldL p t else couldL p t
def couldN (p : S79) : List S48 → Int
 | [] => 0
 | it :: t => if 0 < tak p it then tak p it + couldN p t else couldN p t
structure Left (l : List S48) : Prop where
 len : l.length ≤ 6
 num : ∀ x ∈ l, 1 ≤ x.f0 ∧ x.f0 ≤ 50 ∧ 0 ≤ x.f1 ∧ x.f1 ≤ 1000
 ord : l.Pairwise (fun a b => a.f0 < b.f0)
theorem Left.tail {x : S48} {l : List S48} (h : Left (x :: l)) : Left l := ⟨by have := h.len; simp at this; omega, fun y hy => h.num y (List.mem_cons_of_mem _ hy), (List.pairwise_cons.1 h.ord).2⟩
theorem rd_item {l : List S48} {i : Nat} (hi : i < l.length) : rd_T48 l (i : Int) = l[i] := rd_struct_at hi
theorem couldL_len (p : S79) : ∀ l : List S48, (couldL p l).length ≤ l.length
 | [] => by simp [couldL]
 | it :: t => by
  have := couldL_len p t
  unfold couldL
  split <;> simp only [List.length_cons] <;> omega
theorem couldN_bounds {p : S79} : ∀ {l : List S48}, Left l → 0 ≤ couldN p l ∧ couldN p l ≤ 1000 * (l.length : Int)
 | [], _ => by simp [couldN]
 | it :: t, h => by
  have ih := couldN_bounds (p := p) h.tail
  have hn := h.num it List.mem_cons_self
  unfold couldN
  have : tak p it ≤ it.f1 := by unfold tak; split <;> omega
  split <;> simp only [List.length_cons] <;> omega
theorem impl_could_f (p : S79) (l : List S48) (hl : Left l) (hp : stacksOk p.f2 = true) (h8 : p.f2.length ≤ 8) : Ev (fun k => impl_could.f k p.f0 p.f1 p.f2 l) (couldL p l, couldN p l) := by
 have key : ∀ (d i : Nat) (acc : List S50) (n : Int), i + d = l.length → acc.length ≤ i → 0 ≤ n → n ≤ 1000 * (i : Int) → Ev (fun k => impl_could.l0 k acc n l (l.length : Int) i p.f0 p.f1 p.f2) (acc ++ couldL p (l.drop i), n + couldN p (l.drop i)) := by
  intro d
  induction d with
  | zero =>
   intro i acc n e ha h0 h1
   refine Ev.unroll ?_
   simp only [impl_could.l0]
   rw [drop_end (by omega)]
   exact Ev.ifn (by omega) (Ev.fin (by simp [couldL, couldN]))
  | succ d ih =>
   intro i acc n e ha h0 h1
   have hi : i < l.length := by omega
   have h6 := hl.len
   have hn := hl.num l[i] (List.getElem_mem hi)
   have hb := stackOf_bounds hp l[i].f0
   have hh := hit_facts hp l[i].f0
   have hs := impl_stackAt_f p.f0 p.f1 p.f2 l[i].f0 (by omega)
   have ht : tak p l[i] ≤ 1000 := by unfold tak; split <;> omega
   have ih1 := ih (i + 1) acc n (by omega) (by omega) (by omega) (by omega)
   have ih2 := fun h : 0 < tak p l[i] => ih (i + 1) (acc ++ [⟨p.f0, l[i].f0, tak p l[i]⟩]) (n + tak p l[i]) (by omega) (by simp; omega) (by omega) (by omega)
   refine Ev.unroll ?_
   simp only [impl_could.l0, rd_item hi, wrap_sc (show i < 9223372036854775807 by omega)]
   rw [drop_cons hi, couldL, couldN]
   refine Ev.ifp (by omega) (Ev.ifp (by omega) (Ev.ifp (by omega) (Ev.bind hs ?_)))
   cases hit : hitAt p.f2 l[i].f0
   ·have h0 := hh.2 hit
    have et : ¬ 0 < tak p l[i] := by unfold tak av; split <;> omega
    rw [if_neg et, if_neg et]
    exact Ev.ifn (by simp) ih1
   ·have h1 := hh.1 hit
    have er : rd_T72 p.f2 ((lowIdx p.f2 l[i].f0 : Nat) : Int) = stackOf p.f2 l[i].f0 := by rw [rd_stack]; exact h1.2
    have ea : wrap64 ((stackOf p.f2 l[i].f0).f1 - (stackOf p.f2 l[i].f0).f2) = av p l[i].f0 := wrap_id (by omega) (by omega)
    have em : mn l[i].f1 (av p l[i].f0) = tak p l[i] := rfl
    simp only [er, ea, em]
    refine Ev.ifp trivial (Ev.ifp (by omega) (Ev.ifp (by omega) ?_))
    by_cases c2 : 0 < tak p l[i]
    ·rw [if_pos c2, if_pos c2]
     have h3 := ih2 c2
     rw [List.append_assoc, Int.add_assoc] at h3
     rw [wrap_id (x := n + tak p l[i]) (by omega) (by omega)]
     exact Ev.ifp c2 (Ev.ifp (by omega) h3)
    ·rw [if_neg c2, if_neg c2]; exact Ev.ifn c2 ih1
 have h := key l.length 0 [] 0 (by omega) (by simp) (by omega) (by omega)
 rw [List.drop_zero, List.nil_append, Int.zero_add] at h
 exact h

theorem podAtN_set {l : List S79} {b : Nat} (hb : b < l.length) (p : S79) (i : Nat) : podAtN (l.set b p) i = if i = b then p else podAtN l i := by
 unfold podAtN
 rw [List.getD_eq_getElem?_getD, List.getElem?_set, List.getD_eq_getElem?_getD]
 by_cases e : i = b
 ·subst e; simp [hb]
 ·rw [if_neg (fun h => e h.symm), if_neg e]
theorem stock_ids {l : List S79} (h : stockOk l = true) : ∀ i j : Nat, i < j → j < l.length → (podAtN l i).f0 < (podAtN l j).f0 := by
 unfold stockOk at h
 simp only [Bool.and_eq_true, decide_eq_true_eq, allFrom_iff] at h
 have hk : ∀ j, 0 < j → j < l.length → (podAtN l (j - 1)).f0 < (podAtN l j).f0 := fun j h0 hj => by
  have := h.2 j (by omega) hj
  unfold podAtOk at this
  simp only [Bool.and_eq_true, Bool.or_eq_true, decide_eq_true_eq] at this
  rcases this.2.1 with h1 | h1
  ·omega
  ·exact h1
 intro i j
 induction j with
 | zero => intro h; omega
 | succ j ih =>
  intro h1 h2
  have h3 := hk (j + 1) (by omega) h2
  rw [Nat.add_sub_cancel] at h3
  by_cases e : i = j
  ·subst e; exact h3
  ·exact Int.lt_trans (ih (by omega) (by omega)) h3
theorem podIdx_at {l : List S79} (h : stockOk l = true) {b : Nat} (hb : b < l.length) : podIdx l (podAtN l b).f0 = (b : Int) := by
 have hi := stock_ids h
 have e : l.findIdx? (fun p => p.f0 == (podAtN l b).f0) = some b := by
  rw [List.findIdx?_eq_some_iff_getElem]
  refine ⟨hb, ?_, fun j hj => ?_⟩
  ·unfold podAtN; rw [getD_at hb]; simp
  ·have := hi j b hj hb
   unfold podAtN at this ⊢
   rw [getD_at (show j < l.length by omega)] at this
   simp only [beq_iff_eq]
   exact Int.ne_of_lt this
 unfold podIdx
 rw [e]
theorem stock_set {l : List S79} (h : stockOk l = true) {b : Nat} (hb : b < l.length) {p : S79} (e0 : p.f0 = (podAtN l b).f0) (e1 : p.f1 = (podAtN l b).f1) (hk : podOk p = true) : stockOk (l.set b p) = true := by
 have f0 : ∀ j, (podAtN (l.set b p) j).f0 = (podAtN l j).f0 := fun j => by
  rw [podAtN_set hb]; split
  ·rename_i e; rw [e, e0]
  ·rfl
 have f1 : ∀ j, (podAtN (l.set b p) j).f1 = (podAtN l j).f1 := fun j => by
  rw [podAtN_set hb]; split
  ·rename_i e; rw [e, e1]
  ·rfl
 unfold stockOk at h ⊢
 simp only [Bool.and_eq_true, decide_eq_true_eq, allFrom_iff, List.length_set] at h ⊢
 refine ⟨h.1, fun i h1 h2 => ?_⟩
 have h3 := h.2 i h1 h2
 unfold podAtOk at h3 ⊢
 have eh : homesOk (l.set b p) i = homesOk l i := by funext k; unfold homesOk; rw [f1, f1]
 rw [f0, f0, eh]
 simp only [Bool.and_eq_true] at h3 ⊢
 refine ⟨?_, h3.2⟩
 rw [podAtN_set hb]
 split
 ·exact hk
 ·exact h3.1
theorem stackAt_set {l : List S72} {b : Nat} (hb : b < l.length) (p : S72) (i : Nat) : stackAt (l.set b p) i = if i = b then p else stackAt l i := by
 unfold stackAt
 rw [List.getD_eq_getElem?_getD, List.getElem?_set, List.getD_eq_getElem?_getD]
 by_cases e : i = b
 ·subst e; simp [hb]
 ·rw [if_neg (fun h => e h.symm), if_neg e]
theorem stacks_set {l : List S72} (h : stacksOk l = true) {b : Nat} (hb : b < l.length) {p : S72} (e0 : p.f0 = (stackAt l b).f0) (e1 : p.f1 = (stackAt l b).f1) (h0 : 0 ≤ p.f2) (h1 : p.f2 ≤ p.f1) : stacksOk (l.set b p) = true := by
 have f0 : ∀ j, (stackAt (l.set b p) j).f0 = (stackAt l j).f0 := fun j => by
  rw [stackAt_set hb]; split
  ·rename_i e; rw [e, e0]
  ·rfl
 have f1 : ∀ j, (stackAt (l.set b p) j).f1 = (stackAt l j).f1 := fun j => by
  rw [stackAt_set hb]; split
  ·rename_i e; rw [e, e1]
  ·rfl
 unfold stacksOk at h ⊢
 simp only [allFrom_iff, List.length_set] at h ⊢
 intro i h2 h3
 have h4 := h i h2 h3
 unfold stackOk at h4 ⊢
 rw [f0, f0, f1]
 simp only [Bool.and_eq_true] at h4 ⊢
 refine ⟨h4.1, h4.2.1, ?_, h4.2.2.2⟩
 rw [stackAt_set hb]
 split
 ·rename_i e; rw [inB_iff]; subst e; omega
 ·exact h4.2.2.1
theorem stackOf_set : ∀ {l : List S72}, l.Pairwise (fun a b => a.f0 < b.f0) → ∀ {j : Nat}, j < l.length → ∀ {x : S72}, x.f0 = (stackAt l j).f0 → ∀ sku : Int, stackOf (l.set j x) sku = if sku = x.f0 then x else stackOf l sku
 | [], _, j, hj, _, _, _ => by simp at hj
 | y :: t, hp, 0, _, x, e, sku => by
  have e2 : x.f0 = y.f0 := e
  unfold stackOf
  rw [List.set_cons_zero, List.find?_cons, List.find?_cons]
  by_cases h : sku = x.f0
  ·subst h; simp
  ·rw [if_neg h, show (x.f0 == sku) = false by rw [beq_eq_false_iff_ne]; omega, show (y.f0 == sku) = false by rw [beq_eq_false_iff_ne]; omega]
 | y :: t, hp, j + 1, hj, x, e, sku => by
  have hs := List.pairwise_cons.1 hp
  have hj2 : j < t.length := by simpa using hj
  have e2 : x.f0 = (stackAt t j).f0 := by rw [e]; unfold stackAt; rw [List.getD_cons_succ]
  have ih := stackOf_set hs.2 hj2 e2 sku
  have hlt : y.f0 < x.f0 := by rw [e2]; unfold stackAt; rw [getD_at hj2]; exact hs.1 _ (List.getElem_mem hj2)
  unfold stackOf at ih ⊢
  rw [List.set_cons_succ, List.find?_cons, List.find?_cons]
  by_cases h : y.f0 = sku
  ·subst h
   rw [if_neg (by omega)]
   simp
  ·rw [show (y.f0 == sku) = false by rw [beq_eq_false_iff_ne]; exact h]
   exact ih
theorem hold_one {l : List S79} (h : stockOk l = true) {b : Nat} (hb : b < l.length) {sku n : Int} (hs : 1 ≤ sku ∧ sku ≤ 50) (h1 : 1 ≤ n) (hn : n ≤ av (podAtN l b) sku) :
  ∃ p, heldOf l (podAtN l b).f0 sku n n = (l.set b p, 0) ∧ stockOk (l.set b p) = true ∧ p.f0 = (podAtN l b).f0 ∧ ∀ s : Int, av p s = if s = sku then av (podAtN l b) sku - n else av (podAtN l b) s := by
 have hpf := (stock_pods h).2 b hb
 have hid := podIdx_at h hb
 have hbd := stackOf_bounds hpf.stacks sku
 have hst := stacks_facts hpf.stacks
 have hf := hit_facts hpf.stacks sku
 have hq := hit_stack (sku := sku) hst.1
 have hav : av (podAtN l b) sku = (stackOf (podAtN l b).f2 sku).f1 - (stackOf (podAtN l b).f2 sku).f2 := rfl
 have ha : askOk l sku n = true := by unfold askOk; rw [h, Bool.true_and, Bool.and_eq_true, inB_iff, inB_iff]; omega
 have hit : hitAt (podAtN l b).f2 sku = true := by
  cases e : hitAt (podAtN l b).f2 sku with
  | true => rfl
  | false => have := hf.2 e; omega
 have hh := hf.1 hit
 have hh2 := hq.1 hit
 refine ⟨⟨(podAtN l b).f0, (podAtN l b).f1, (podAtN l b).f2.set (lowIdx (podAtN l b).f2 sku) ⟨sku, (stackOf (podAtN l b).f2 sku).f1, (stackOf (podAtN l b).f2 sku).f2 + n⟩⟩, ?_, ?_, rfl, fun s => ?_⟩
 ·unfold heldOf
  rw [if_pos ha, hid, if_pos (by omega), rd_pod, if_pos ⟨hit, by omega, by omega⟩, Int.toNat_natCast]
 ·refine stock_set h hb rfl rfl ?_
  unfold podOk
  simp only [Bool.and_eq_true, inB_iff, decide_eq_true_eq, List.length_set]
  refine ⟨hpf.id, hpf.home, hpf.len, stacks_set hpf.stacks hh.1 ?_ ?_ (by show 0 ≤ (stackOf (podAtN l b).f2 sku).f2 + n; omega) (by show (stackOf (podAtN l b).f2 sku).f2 + n ≤ (stackOf (podAtN l b).f2 sku).f1; omega)⟩
  ·show sku = _; rw [hh.2, hh2.2]
  ·show _ = _; rw [hh.2]
 ·unfold av
  dsimp only
  rw [stackOf_set hst.1 hh.1 (by show sku = _; rw [hh.2, hh2.2]) s]
  dsimp only
  by_cases e : s = sku
  ·rw [if_pos e, if_pos e]; dsimp only; omega
  ·rw [if_neg e, if_neg e]
theorem could_same {p q : S79} (e : p.f0 = q.f0) : ∀ {l : List S48}, (∀ it ∈ l, av p it.f0 = av q it.f0) → couldL p l = couldL q l ∧ couldN p l = couldN q l
 | [], _ => ⟨rfl, rfl⟩
 | it :: t, h => by
  have ih := could_same e (fun x hx => h x (List.mem_cons_of_mem _ hx))
  have et : tak p it = tak q it := by unfold tak; rw [h it List.mem_cons_self]
  unfold couldL couldN
  rw [et, ih.1, ih.2, e]
  exact ⟨rfl, rfl⟩
theorem hold_all (s0 : List S79) (b : Nat) : ∀ (its : List S48) (s : List S79), stockOk s = true → b < s.length → Left its →
  ∃ s', eachOf (opOf 1) s0 (couldL (podAtN s b) its) s = (s', true) ∧ stockOk s' = true ∧ s'.length = s.length ∧ (∀ i, i ≠ b → podAtN s' i = podAtN s i) ∧ (podAtN s' b).f0 = (podAtN s b).f0 ∧
   (∀ it ∈ its, av (podAtN s' b) it.f0 = av (podAtN s b) it.f0 - (if 0 < tak (podAtN s b) it then tak (podAtN s b) it else 0)) ∧ (∀ k : Int, (∀ it ∈ its, it.f0 ≠ k) → av (podAtN s' b) k = av (podAtN s b) k)
 | [], s, h, hb, _ => ⟨s, rfl, h, rfl, fun _ _ => rfl, rfl, fun _ h => by simp at h, fun _ _ => rfl⟩
 | it :: t, s, h, hb, hl => by
  have hx := hl.num it List.mem_cons_self
  have hlt := (List.pairwise_cons.1 hl.ord).1
  by_cases c : 0 < tak (podAtN s b) it
  ·have hle : tak (podAtN s b) it ≤ av (podAtN s b) it.f0 := by unfold tak; split <;> omega
   obtain ⟨p, e1, e2, e3, e4⟩ := hold_one h hb (sku := it.f0) (n := tak (podAtN s b) it) ⟨hx.1, hx.2.1⟩ (by omega) hle
   have ep : podAtN (s.set b p) b = p := by rw [podAtN_set hb, if_pos rfl]
   obtain ⟨s', g1, g2, g3, g4, g5, g6, g7⟩ := hold_all s0 b t (s.set b p) e2 (by rw [List.length_set]; exact hb) hl.tail
   rw [ep] at g1 g5 g6 g7
   have hs := could_same (p := p) (q := podAtN s b) e3 (l := t) (fun x hx => by rw [e4, if_neg (show ¬ x.f0 = it.f0 by have := hlt x hx; omega)])
   have et : ∀ x ∈ t, tak p x = tak (podAtN s b) x := fun x hx => by unfold tak; rw [e4, if_neg (show ¬ x.f0 = it.f0 by have := hlt x hx; omega)]
   refine ⟨s', ?_, g2, by rw [g3, List.length_set], fun i hi => ?_, by rw [g5, e3], fun x hx => ?_, fun k hk => ?_⟩
   ·rw [couldL, if_pos c, eachOf]
    have eo : opOf 1 s (podAtN s b).f0 it.f0 (tak (podAtN s b) it) = (s.set b p, 0) := by unfold opOf; rw [if_pos rfl]; exact e1
    simp only [eo]
    rw [if_pos trivial, ← hs.1]
    exact g1
   ·rw [g4 i hi, podAtN_set hb, if_neg hi]
   ·rcases List.mem_cons.1 hx with rfl | hx
    ·rw [g7 x.f0 (fun y hy => by have := hlt y hy; omega), e4, if_pos rfl, if_pos c]
    ·rw [g6 x hx, e4, if_neg (show ¬ x.f0 = it.f0 by have := hlt x hx; omega), et x hx]
   ·rw [g7 k (fun y hy => hk y (List.mem_cons_of_mem _ hy)), e4, if_neg (fun e => hk it List.mem_cons_self e.symm)]
  ·obtain ⟨s', g1, g2, g3, g4, g5, g6, g7⟩ := hold_all s0 b t s h hb hl.tail
   refine ⟨s', ?_, g2, g3, g4, g5, fun x hx => ?_, fun k hk => g7 k (fun y hy => hk y (List.mem_cons_of_mem _ hy))⟩
   ·rw [couldL, if_neg c]; exact g1
   ·rcases List.mem_cons.1 hx with rfl | hx
    ·rw [g7 x.f0 (fun y hy => by have := hlt y hy; omega), if_neg c]; omega
    ·exact g6 x hx

theorem Ev.eq {α : Type} {g : Nat → Option α} {r s : α} (h : Ev g r) (e : r = s) : Ev g s := e ▸ h
def sumM (g : S79 → Int) : List S79 → Int
 | [] => 0
 | p :: t => g p + sumM g t
theorem sumM_set (g : S79 → Int) : ∀ (l : List S79) (b : Nat) (p : S79), b < l.length → sumM g (l.set b p) = sumM g l - g (podAtN l b) + g p
 | [], b, p, h => by simp at h
 | q :: t, 0, p, h => by
  show g p + sumM g t = g q + sumM g t - g q + g p
  omega
 | q :: t, b + 1, p, h => by
  have ih := sumM_set g t b p (by simpa using h)
  show g q + sumM g (t.set b p) = g q + sumM g t - g (podAtN t b) + g p
  omega
theorem freeFrom_sum (l : List S79) (sku : Int) : ∀ (d i : Nat) (acc : Int), i + d = l.length → freeFrom l sku d i acc = acc + sumM (fun p => av p sku) (l.drop i)
 | 0, i, acc, e => by rw [drop_end (by omega)]; simp [freeFrom, sumM]
 | d + 1, i, acc, e => by
  have hi : i < l.length := by omega
  have ei : podAtN l i = l[i] := by unfold podAtN; exact getD_at hi
  rw [freeFrom, freeFrom_sum l sku d (i + 1) _ (by omega), drop_cons hi, sumM, ei]
  unfold av; omega
theorem countFrom_sum (l : List S79) (sku : Int) : ∀ (d i : Nat) (acc : Int), i + d = l.length → countFrom l sku d i acc = acc + sumM (fun p => (stackOf p.f2 sku).f1) (l.drop i)
 | 0, i, acc, e => by rw [drop_end (by omega)]; simp [countFrom, sumM]
 | d + 1, i, acc, e => by
  have hi : i < l.length := by omega
  have ei : podAtN l i = l[i] := by unfold podAtN; exact getD_at hi
  rw [countFrom, countFrom_sum l sku d (i + 1) _ (by omega), drop_cons hi, sumM, ei]
  omega
theorem freeOf_sum {l : List S79} (h : stockOk l = true) (sku : Int) : freeOf l sku = sumM (fun p => av p sku) l := by
 unfold freeOf
 rw [if_pos h, freeFrom_sum l sku l.length 0 0 (by omega), List.drop_zero, Int.zero_add]
theorem countOf_sum {l : List S79} (h : stockOk l = true) (sku : Int) : countOf l sku = sumM (fun p => (stackOf p.f2 sku).f1) l := by
 unfold countOf
 rw [if_pos h, countFrom_sum l sku l.length 0 0 (by omega), List.drop_zero, Int.zero_add]
structure AskAt (l : List S79) (id sku n : Int) (b : Nat) : Prop where
 hb : b < l.length
 idx : podIdx l id = (b : Int)
 ok : stockOk l = true
 ask : askOk l sku n = true
 sku : 1 ≤ sku ∧ sku ≤ 50
 n : 1 ≤ n ∧ n ≤ 1000
 pf : PodFacts (podAtN l b)
theorem ask_at {l : List S79} {id sku n : Int} (ha : askOk l sku n = true) (h0 : 0 ≤ podIdx l id) : ∃ b : Nat, AskAt l id sku n b := by
 have f := ask_facts ha h0
 obtain ⟨b, hb⟩ : ∃ b : Nat, podIdx l id = (b : Int) := ⟨(podIdx l id).toNat, by omega⟩
 have hi := f.idx
 have hok : stockOk l = true := by unfold askOk at ha; simp only [Bool.and_eq_true] at ha; exact ha.1
 exact ⟨b, by omega, hb, hok, ha, f.sku, f.n, (stock_pods hok).2 b (by omega)⟩
theorem AskAt.set {l : List S79} {id sku n : Int} {b : Nat} (a : AskAt l id sku n b) {p : S79} (e0 : p.f0 = (podAtN l b).f0) (e1 : p.f1 = (podAtN l b).f1) (hk : podOk p = true) : AskAt (l.set b p) id sku n b ∧ podAtN (l.set b p) b = p := by
 have ok2 := stock_set a.ok a.hb e0 e1 hk
 have hp : podAtN (l.set b p) b = p := by rw [podAtN_set a.hb, if_pos rfl]
 refine ⟨⟨by rw [List.length_set]; exact a.hb, ?_, ok2, ?_, a.sku, a.n, (stock_pods ok2).2 b (by rw [List.length_set]; exact a.hb)⟩, hp⟩
 ·rw [podIdx_set l id b p (fun h => by rw [e0]; unfold podAtN; rw [getD_at h])]; exact a.idx
 ·have := a.ask
  unfold askOk at this ⊢
  simp only [Bool.and_eq_true] at this ⊢
  exact ⟨ok2, this.2⟩
theorem stacksOk_of {l : List S72} (h1 : l.Pairwise (fun a b => a.f0 < b.f0)) (h2 : ∀ x ∈ l, 1 ≤ x.f0 ∧ x.f0 ≤ 50 ∧ 1 ≤ x.f1 ∧ x.f1 ≤ 1000 ∧ 0 ≤ x.f2 ∧ x.f2 ≤ x.f1) : stacksOk l = true := by
 unfold stacksOk
 rw [allFrom_iff]
 intro j _ hj
 have hx := h2 l[j] (List.getElem_mem hj)
 have ej : stackAt l j = l[j] := by unfold stackAt; exact getD_at hj
 unfold stackOk
 rw [ej]
 simp only [Bool.and_eq_true, Bool.or_eq_true, inB_iff, decide_eq_true_eq]
 refine ⟨by omega, by omega, by omega, ?_⟩
 by_cases h0 : j = 0
 ·exact .inl h0
 ·have := List.pairwise_iff_getElem.1 h1 (j - 1) j (by omega) hj (by omega)
  have e2 : stackAt l (j - 1) = l[j - 1] := by unfold stackAt; exact getD_at (by omega)
  rw [e2]; exact .inr this
structure SetFacts (s t : List S72) (sku : Int) (x : S72) : Prop where
 ok : stacksOk t = true
 of : ∀ k : Int, stackOf t k = if k = sku then x else stackOf s k
 low : lowIdx t sku = lowIdx s sku
 hit : hitAt t sku = true
theorem set_facts {s : List S72} (hs : stacksOk s = true) {sku N H : Int} (hit : hitAt s sku = true) (hN : 1 ≤ N ∧ N ≤ 1000) (hH : 0 ≤ H ∧ H ≤ N) : SetFacts s (s.set (lowIdx s sku) ⟨sku, N, H⟩) sku ⟨sku, N, H⟩ := by
 have f := stacks_facts hs
 have h1 := (hit_facts hs sku).1 hit
 have h2 := (hit_stack (sku := sku) f.1).1 hit
 have e0 : sku = (stackAt s (lowIdx s sku)).f0 := by rw [h1.2, h2.2]
 have el : lowIdx (s.set (lowIdx s sku) ⟨sku, N, H⟩) sku = lowIdx s sku := lowIdx_set _ _ _ _ (fun h => by
  have : stackAt s (lowIdx s sku) = s[lowIdx s sku]'h := by unfold stackAt; exact getD_at h
  exact e0.trans (congrArg _ this))
 have hm := f.2 (s[lowIdx s sku]'h1.1) (List.getElem_mem _)
 have e3 : (s[lowIdx s sku]'h1.1).f0 = sku := by
  have : stackAt s (lowIdx s sku) = s[lowIdx s sku]'h1.1 := by unfold stackAt; exact getD_at h1.1
  rw [this] at e0; exact e0.symm
 refine ⟨stacksOk_of ?_ ?_, fun k => stackOf_set f.1 h1.1 e0 k, el, ?_⟩
 ·refine List.pairwise_iff_getElem.2 fun i j hi hj hij => ?_
  have := List.pairwise_iff_getElem.1 f.1 i j (by simpa using hi) (by simpa using hj) hij
  rw [List.getElem_set, List.getElem_set]
  split <;> split
  ·omega
  ·rename_i a b; subst a; show sku < _; omega
  ·rename_i a b; subst b; show _ < sku; omega
  ·exact this
 ·intro x hx
  rcases List.mem_or_eq_of_mem_set hx with h | rfl
  ·exact f.2 x h
  ·show 1 ≤ sku ∧ sku ≤ 50 ∧ 1 ≤ N ∧ N ≤ 1000 ∧ 0 ≤ H ∧ H ≤ N
   rw [e3] at hm; omega
 ·unfold hitAt
  rw [el, List.length_set, decide_eq_true h1.1, Bool.true_and, stackAt_set h1.1, if_pos rfl]
  simp
def setPod (q : S79) (sku N H : Int) : S79 := ⟨q.f0, q.f1, q.f2.set (lowIdx q.f2 sku) ⟨sku, N, H⟩⟩
theorem podOk_of {p : S79} (h0 : 1 ≤ p.f0 ∧ p.f0 ≤ 999) (h1 : 0 ≤ p.f1 ∧ p.f1 ≤ 99) (h8 : p.f2.length ≤ 8) (hs : stacksOk p.f2 = true) : podOk p = true := by
 unfold podOk
 simp only [Bool.and_eq_true, inB_iff, decide_eq_true_eq]
 exact ⟨h0, h1, h8, hs⟩
theorem setPod_ok {q : S79} (f : PodFacts q) {sku N H : Int} (hit : hitAt q.f2 sku = true) (hN : 1 ≤ N ∧ N ≤ 1000) (hH : 0 ≤ H ∧ H ≤ N) : podOk (setPod q sku N H) = true :=
 podOk_of f.id f.home (by show (q.f2.set _ _).length ≤ 8; rw [List.length_set]; exact f.len) (set_facts f.stacks hit hN hH).ok
theorem heldOf_at {l : List S79} {id sku n : Int} {b : Nat} (a : AskAt l id sku n b) (more : Int) : heldOf l id sku n more =
  if hitAt (podAtN l b).f2 sku = true ∧ 0 ≤ (stackOf (podAtN l b).f2 sku).f2 + more ∧ (stackOf (podAtN l b).f2 sku).f2 + more ≤ (stackOf (podAtN l b).f2 sku).f1 then (l.set b (setPod (podAtN l b) sku (stackOf (podAtN l b).f2 sku).f1 ((stackOf (podAtN l b).f2 sku).f2 + more)), 0) else (l, 3) := by
 unfold heldOf
 rw [if_pos a.ask, a.idx, if_pos (by omega), rd_pod, Int.toNat_natCast]
 rfl
theorem takeOf_at {l : List S79} {id sku n : Int} {b : Nat} (a : AskAt l id sku n b) : takeOf l id sku n =
  if hitAt (podAtN l b).f2 sku = true ∧ n ≤ (stackOf (podAtN l b).f2 sku).f2 then (l.set b ⟨(podAtN l b).f0, (podAtN l b).f1, takenStacks (podAtN l b).f2 sku n⟩, 0) else (l, 3) := by
 unfold takeOf
 rw [if_pos a.ask, a.idx, if_pos (by omega), rd_pod, Int.toNat_natCast]
def offOf (p : S79) (it : S48) : Int := if 0 < tak p it then tak p it else 0
def dec (p : S79) (it : S48) : S48 := ⟨it.f0, it.f1 - offOf p it⟩
def nz (l : List S48) : List S48 := l.filter (fun it => decide (0 < it.f1))
theorem off_bounds {p : S79} {it : S48} (h : 0 ≤ it.f1) : 0 ≤ offOf p it ∧ offOf p it ≤ it.f1 := by
 unfold offOf tak
 split <;> split at * <;> omega
theorem Left.nz {l : List S48} (h : Left l) : Left (nz l) := by
 have hs : (Pure.nz l).Sublist l := List.filter_sublist
 exact ⟨by have := hs.length_le; have := h.len; omega, fun x hx => h.num x (hs.subset hx), h.ord.sublist hs⟩
theorem Left.dec {l : List S48} (p : S79) (h : Left l) : Left (l.map (dec p)) := by
 refine ⟨by rw [List.length_map]; exact h.len, fun x hx => ?_, ?_⟩
 ·obtain ⟨y, hy, rfl⟩ := List.mem_map.1 hx
  have := h.num y hy
  have hb := off_bounds (p := p) this.2.2.1
  show 1 ≤ y.f0 ∧ y.f0 ≤ 50 ∧ 0 ≤ y.f1 - offOf p y ∧ y.f1 - offOf p y ≤ 1000
  omega
 ·exact List.pairwise_map.2 (h.ord.imp (fun {a b} hab => hab))
theorem could_nz (p : S79) : ∀ {l : List S48}, Left l → couldL p (nz l) = couldL p l ∧ couldN p (nz l) = couldN p l
 | [], _ => ⟨rfl, rfl⟩
 | it :: t, h => by
  have ih := could_nz p h.tail
  have hn := h.num it List.mem_cons_self
  unfold nz at ih ⊢
  by_cases c : 0 < it.f1
  ·rw [List.filter_cons_of_pos (by simpa using c)]
   unfold couldL couldN
   rw [ih.1, ih.2]
   exact ⟨rfl, rfl⟩
  ·rw [List.filter_cons_of_neg (by simpa using c), ih.1, ih.2]
   have ht : ¬ 0 < tak p it := by unfold tak; split <;> omega
   exact ⟨by rw [show couldL p (it :: t) = couldL p t by rw [couldL, if_neg ht]], by rw [show couldN p (it :: t) = couldN p t by rw [couldN, if_neg ht]]⟩
theorem nz_dec (p : S79) : ∀ {l : List S48}, Left l → nz ((nz l).map (dec p)) = nz (l.map (dec p))
 | [], _ => rfl
 | it :: t, h => by
  have ih := nz_dec p h.tail
  have hn := h.num it List.mem_cons_self
  have hb := off_bounds (p := p) hn.2.2.1
  unfold nz at ih ⊢
  by_cases c : 0 < it.f1
  ·rw [List.filter_cons_of_pos (by simpa using c), List.map_cons, List.map_cons, List.filter_cons, List.filter_cons, ih]
  ·rw [List.filter_cons_of_neg (by simpa using c), ih, List.map_cons, List.filter_cons_of_neg (by show ¬ decide (0 < it.f1 - offOf p it) = true; simp; omega)]
def same : List S50 → Int → Int
 | [], _ => 0
 | q :: t, k => (if q.f1 = k then q.f2 else 0) + same t k
theorem same_none (p : S79) (k : Int) : ∀ {l : List S48}, (∀ x ∈ l, x.f0 ≠ k) → same (couldL p l) k = 0
 | [], _ => rfl
 | it :: t, h => by
  have ih := same_none p k (l := t) (fun x hx => h x (List.mem_cons_of_mem _ hx))
  unfold couldL
  split
  ·rw [same, if_neg (h it List.mem_cons_self), ih]; rfl
  ·exact ih
theorem same_off (p : S79) : ∀ {l : List S48}, Left l → ∀ it ∈ l, same (couldL p l) it.f0 = offOf p it
 | [], _, _, h => by simp at h
 | x :: t, h, it, hit => by
  have hlt := (List.pairwise_cons.1 h.ord).1
  rcases List.mem_cons.1 hit with rfl | hit
  ·have h0 := same_none p it.f0 (l := t) (fun y hy => by have := hlt y hy; omega)
   unfold couldL offOf
   split
   ·rw [same, if_pos rfl, h0]; exact Int.add_zero _
   ·exact h0
  ·have ih := same_off p h.tail it hit
   have hne : ¬ x.f0 = it.f0 := by have := hlt it hit; omega
   unfold couldL
   split
   ·rw [same, if_neg hne, ih]; omega
   ·exact ih
structure PicksOk (ps : List S50) : Prop where
 len : ps.length ≤ 6
 num : ∀ q ∈ ps, 1 ≤ q.f2 ∧ q.f2 ≤ 1000
theorem couldL_ok (p : S79) {l : List S48} (h : Left l) : PicksOk (couldL p l) := by
 refine ⟨by have := couldL_len p l; have := h.len; omega, fun q hq => ?_⟩
 have key : ∀ {l : List S48}, Left l → ∀ q ∈ couldL p l, 1 ≤ q.f2 ∧ q.f2 ≤ 1000 := by
  intro l
  induction l with
  | nil => intro _ q hq; simp [couldL] at hq
  | cons it t ih =>
   intro h q hq
   have hn := h.num it List.mem_cons_self
   unfold couldL at hq
   split at hq
   ·rcases List.mem_cons.1 hq with rfl | hq
    ·have : tak p it ≤ it.f1 := by unfold tak; split <;> omega
     show 1 ≤ tak p it ∧ tak p it ≤ 1000
     omega
    ·exact ih h.tail q hq
   ·exact ih h.tail q hq
 exact key h q hq
theorem rd_pick {l : List S50} {i : Nat} (hi : i < l.length) : rd_T50 l (i : Int) = l[i] := rd_struct_at hi
theorem impl_less_f (l : List S48) (hl : Left l) (ps : List S50) (hp : PicksOk ps) : Ev (fun k => impl_less.f k l ps) (nz (l.map (fun it => ⟨it.f0, it.f1 - same ps it.f0⟩))) := by
 have hp6 := hp.len
 have h6 := hl.len
 have inner : ∀ (i : Nat) (hi : i < l.length) (acc : List S48) (R : List S48), acc.length ≤ i →
   (∀ n : Int, n = l[i].f1 - same ps l[i].f0 → Ev (fun k => impl_less.l0 k ps (if 0 < n then acc ++ [⟨l[i].f0, n⟩] else acc) l (l.length : Int) ((i + 1 : Nat) : Int)) R) →
   ∀ (d j : Nat) (n : Int), j + d = ps.length → -1000 * (j : Int) ≤ n → n ≤ 1000 → n - same (ps.drop j) l[i].f0 = l[i].f1 - same ps l[i].f0 → Ev (fun k => impl_less.l1 k ps acc l (l.length : Int) i ps (ps.length : Int) j l[i].f0 n) R := by
  intro i hi acc R ha hR d
  induction d with
  | zero =>
   intro j n e h0 h1 hn
   rw [drop_end (by omega), same, Int.sub_zero] at hn
   have := hR n hn
   refine Ev.unroll ?_
   simp only [impl_less.l1, wrap_sc (show i < 9223372036854775807 by omega)]
   refine Ev.ifn (by omega) ?_
   by_cases c : 0 < n
   ·rw [if_pos c] at this; exact Ev.ifp c (Ev.ifp (by omega) this)
   ·rw [if_neg c] at this; exact Ev.ifn c this
  | succ d ih =>
   intro j n e h0 h1 hn
   have hj : j < ps.length := by omega
   have hq := hp.num ps[j] (List.getElem_mem hj)
   rw [drop_cons hj, same] at hn
   refine Ev.unroll ?_
   simp only [impl_less.l1, rd_pick hj, wrap_sc (show j < 9223372036854775807 by omega)]
   refine Ev.ifp (by omega) (Ev.ifp (by omega) (Ev.ifp (by omega) ?_))
   by_cases c : ps[j].f1 = l[i].f0
   ·rw [if_pos c] at hn
    rw [wrap_id (x := n - ps[j].f2) (by omega) (by omega)]
    exact Ev.ifp c (ih (j + 1) (n - ps[j].f2) (by omega) (by omega) (by omega) (by omega))
   ·rw [if_neg c] at hn
    exact Ev.ifn c (ih (j + 1) n (by omega) (by omega) (by omega) (by omega))
 have outer : ∀ (d i : Nat) (acc : List S48), i + d = l.length → acc.length ≤ i → Ev (fun k => impl_less.l0 k ps acc l (l.length : Int) i) (acc ++ nz ((l.drop i).map (fun it => ⟨it.f0, it.f1 - same ps it.f0⟩))) := by
  intro d
  induction d with
  | zero =>
   intro i acc e ha
   refine Ev.unroll ?_
   simp only [impl_less.l0]
   rw [drop_end (by omega)]
   exact Ev.ifn (by omega) (Ev.fin (by simp [nz]))
  | succ d ih =>
   intro i acc e ha
   have hi : i < l.length := by omega
   have hn := hl.num l[i] (List.getElem_mem hi)
   refine Ev.unroll ?_
   simp only [impl_less.l0, rd_item hi]
   refine Ev.ifp (by omega) (Ev.ifp (by omega) (Ev.ifp (by omega) (inner i hi acc _ ha (fun n hn2 => ?_) ps.length 0 l[i].f1 (by omega) (by omega) (by omega) (by rw [List.drop_zero]))))
   rw [drop_cons hi, List.map_cons]
   subst hn2
   by_cases c : 0 < l[i].f1 - same ps l[i].f0
   ·rw [if_pos c]
    have h3 := ih (i + 1) (acc ++ [⟨l[i].f0, l[i].f1 - same ps l[i].f0⟩]) (by omega) (by simp; omega)
    rw [List.append_assoc] at h3
    unfold nz at h3 ⊢
    rw [List.filter_cons_of_pos (by simpa using c)]
    exact h3
   ·rw [if_neg c]
    have h3 := ih (i + 1) acc (by omega) (by omega)
    unfold nz at h3 ⊢
    rw [List.filter_cons_of_neg (by simpa using c)]
    exact h3
 have h := outer l.length 0 [] (by omega) (by simp)
 rw [List.drop_zero, List.nil_append] at h
 exact h

def itemAt (xs : List S48) (j : Nat) : Bool :=
 inB (xs.getD j z48).f0 1 50 && inB (xs.getD j z48).f1 1 1000 && (j == 0 || decide ((xs.getD (j - 1) z48).f0 < (xs.getD j z48).f0))
theorem spec_ItemsOk_l0 (xs : List S48) (hn : xs.length ≤ 1048576) : ∀ (d i : Nat), i + d = xs.length → Ev (fun k => spec_ItemsOk.l0 k xs i) (allFrom xs.length i (itemAt xs) && decide (xs.length ≤ 6))
 | 0, i, h => Ev.unroll (by
   simp only [spec_ItemsOk.l0]
   simp only [if_neg (show ¬ (i : Int) < xs.length by omega)]
   exact Ev.fin (by rw [allFrom_end (by omega), Bool.true_and]; exact decide_eq_decide.2 (by omega)))
 | d + 1, i, h => Ev.unroll (by
   have hi : i < xs.length := by omega
   have ih := spec_ItemsOk_l0 xs hn d (i + 1) (by omega)
   simp only [spec_ItemsOk.l0, spec_l1In_f, some_bind]
   simp only [if_pos (show (i : Int) < xs.length by omega), if_pos (show (0 : Int) ≤ i by omega), wrap_succ hi (show _ ≤ BIG by unfold BIG; omega), rd_T48, Int.toNat_natCast]
   by_cases h1 : inB (xs.getD i z48).f0 1 50 = true
   ·simp only [if_pos h1]
    by_cases h2 : inB (xs.getD i z48).f1 1 1000 = true
    ·simp only [if_pos h2]
     by_cases h3 : 0 < i
     ·simp only [if_pos (show (i : Int) > 0 by omega), wrap_pred hi h3 (show _ ≤ BIG by unfold BIG; omega), if_pos (show (0 : Int) ≤ ((i - 1 : Nat) : Int) by omega), if_pos (show ((i - 1 : Nat) : Int) < xs.length by omega), Int.toNat_natCast]
      by_cases h4 : (xs.getD (i - 1) z48).f0 ≥ (xs.getD i z48).f0
      ·simp only [if_pos h4]
       exact Ev.fin (by rw [allFrom_no hi (by unfold itemAt; rw [decide_eq_false (show ¬ (xs.getD (i - 1) z48).f0 < (xs.getD i z48).f0 by omega)]; simp [show i ≠ 0 by omega])]; rfl)
      ·simp only [if_neg h4]
       rw [allFrom_yes hi (by unfold itemAt; simp only [h1, h2, decide_eq_true (show (xs.getD (i - 1) z48).f0 < (xs.getD i z48).f0 by omega), Bool.or_true, Bool.and_true])]
       exact ih
     ·simp only [if_neg (show ¬ (i : Int) > 0 by omega)]
      rw [allFrom_yes hi (by have e0 : i = 0 := (by omega); subst e0; unfold itemAt; rw [h1, h2]; rfl)]
      exact ih
    ·simp only [if_neg h2]
     exact Ev.fin (by rw [allFrom_no hi (by rw [Bool.not_eq_true] at h2; unfold itemAt; rw [h2]; simp)]; rfl)
   ·simp only [if_neg h1]
    exact Ev.fin (by rw [allFrom_no hi (by rw [Bool.not_eq_true] at h1; unfold itemAt; rw [h1]; simp)]; rfl))
def itemsOk (xs : List S48) : Bool := allFrom xs.length 0 (itemAt xs) && decide (xs.length ≤ 6)
theorem spec_ItemsOk_f (xs : List S48) (hn : xs.length ≤ 1048576) : Ev (fun k => spec_ItemsOk.f k xs) (itemsOk xs) := spec_ItemsOk_l0 xs hn xs.length 0 (by omega)
theorem impl_ItemsOk_l0 (xs : List S48) (hn : xs.length ≤ 1048576) : ∀ (d i : Nat), i + d = xs.length → Ev (fun k => impl_ItemsOk.l0 k xs xs xs.length i) (allFrom xs.length i (itemAt xs) && decide (xs.length ≤ 6))
 | 0, i, h => Ev.unroll (by
   simp only [impl_ItemsOk.l0]
   simp only [if_neg (show ¬ (i : Int) < xs.length by omega)]
   exact Ev.fin (by rw [allFrom_end (by omega), Bool.true_and]; exact decide_eq_decide.2 (by omega)))
 | d + 1, i, h => Ev.unroll (by
   have hi : i < xs.length := by omega
   have ih := impl_ItemsOk_l0 xs hn d (i + 1) (by omega)
   simp only [impl_ItemsOk.l0, impl_in_f, some_bind]
   simp only [if_pos (show (i : Int) < xs.length by omega), if_pos (show (0 : Int) ≤ i by omega), wrap_succ hi (show _ ≤ BIG by unfold BIG; omega), rd_T48, Int.toNat_natCast]
   by_cases h1 : inB (xs.getD i z48).f0 1 50 = true
   ·simp only [if_pos h1]
    by_cases h2 : inB (xs.getD i z48).f1 1 1000 = true
    ·simp only [if_pos h2]
     by_cases h3 : 0 < i
     ·simp only [if_pos (show (i : Int) > 0 by omega), wrap_pred hi h3 (show _ ≤ BIG by unfold BIG; omega), if_pos (show (0 : Int) ≤ ((i - 1 : Nat) : Int) by omega), if_pos (show ((i - 1 : Nat) : Int) < xs.length by omega), Int.toNat_natCast]
      by_cases h4 : (xs.getD (i - 1) z48).f0 ≥ (xs.getD i z48).f0
      ·simp only [if_pos h4]
       exact Ev.fin (by rw [allFrom_no hi (by unfold itemAt; rw [decide_eq_false (show ¬ (xs.getD (i - 1) z48).f0 < (xs.getD i z48).f0 by omega)]; simp [show i ≠ 0 by omega])]; rfl)
      ·simp only [if_neg h4]
       rw [allFrom_yes hi (by unfold itemAt; simp only [h1, h2, decide_eq_true (show (xs.getD (i - 1) z48).f0 < (xs.getD i z48).f0 by omega), Bool.or_true, Bool.and_true])]
       exact ih
     ·simp only [if_neg (show ¬ (i : Int) > 0 by omega)]
      rw [allFrom_yes hi (by have e0 : i = 0 := (by omega); subst e0; unfold itemAt; rw [h1, h2]; rfl)]
      exact ih
    ·simp only [if_neg h2]
     exact Ev.fin (by rw [allFrom_no hi (by rw [Bool.not_eq_true] at h2; unfold itemAt; rw [h2]; simp)]; rfl)
   ·simp only [if_neg h1]
    exact Ev.fin (by rw [allFrom_no hi (by rw [Bool.not_eq_true] at h1; unfold itemAt; rw [h1]; simp)]; rfl))
theorem impl_ItemsOk_f (xs : List S48) (hn : xs.length ≤ 1048576) : Ev (fun k => impl_ItemsOk.f k xs) (itemsOk xs) := impl_ItemsOk_l0 xs hn xs.length 0 (by omega)

def sumL : List S48 → Int
 | [] => 0
 | it :: t => it.f1 + sumL t
theorem sumL_facts : ∀ {l : List S48}, Left l → 0 ≤ sumL l ∧ sumL l ≤ 1000 * (l.length : Int) ∧ (sumL l = 0 ↔ nz l = [])
 | [], _ => by simp [sumL, nz]
 | it :: t, h => by
  have ih := sumL_facts h.tail
  have hn := h.num it List.mem_cons_self
  rw [show sumL (it :: t) = it.f1 + sumL t from rfl]
  unfold nz at ih ⊢
  by_cases c : 0 < it.f1
  ·rw [List.filter_cons_of_pos (by simpa using c)]
   refine ⟨by omega, by simp only [List.length_cons]; omega, ⟨fun h => by omega, fun h => by cases h⟩⟩
  ·rw [List.filter_cons_of_neg (by simpa using c)]
   refine ⟨by omega, by simp only [List.length_cons]; omega, ?_⟩
   rw [← ih.2.2]
   constructor <;> intro h <;> omega
structure Pair (s s' : List S79) (used : List Bool) (left : List S48) : Prop where
 ok : stockOk s = true
 ok' : stockOk s' = true
 len : s'.length = s.length
 ulen : used.length = s.length
 lft : Left left
 free : ∀ i : Nat, i < s.length → used.getD i false = false → podAtN s' i = podAtN s i
 done : ∀ i : Nat, i < s.length → used.getD i false = true → couldN (podAtN s' i) left = 0
theorem couldN_zero {p : S79} : ∀ {l : List S48}, Left l → (couldN p l = 0 ↔ ∀ it ∈ l, ¬ 0 < tak p it)
 | [], _ => by simp [couldN]
 | it :: t, h => by
  have ih := couldN_zero (p := p) h.tail
  have hb := couldN_bounds (p := p) h.tail
  unfold couldN
  by_cases c : 0 < tak p it
  ·rw [if_pos c]
   constructor
   ·intro h; omega
   ·intro h; exact absurd c (h it List.mem_cons_self)
  ·rw [if_neg c, ih]
   constructor
   ·intro h x hx
    rcases List.mem_cons.1 hx with rfl | hx
    ·exact c
    ·exact h x hx
   ·intro h x hx; exact h x (List.mem_cons_of_mem _ hx)
theorem couldN_less {p q : S79} {l : List S48} (h : Left l) (h0 : couldN p l = 0) : couldN p (l.map (dec q)) = 0 := by
 rw [couldN_zero (h.dec q)]
 intro x hx
 obtain ⟨y, hy, rfl⟩ := List.mem_map.1 hx
 have h1 := (couldN_zero h).1 h0 y hy
 have hb := off_bounds (p := q) (h.num y hy).2.2.1
 unfold tak at h1 ⊢
 show ¬ 0 < (if av p y.f0 < y.f1 - offOf q y then av p y.f0 else y.f1 - offOf q y)
 split <;> split at h1 <;> omega
theorem couldN_held {p p' : S79} {l : List S48} (h : Left l) (ha : ∀ it ∈ l, av p' it.f0 = av p it.f0 - offOf p it) : couldN p' (l.map (dec p)) = 0 := by
 rw [couldN_zero (h.dec p)]
 intro x hx
 obtain ⟨y, hy, rfl⟩ := List.mem_map.1 hx
 have h1 := ha y hy
 unfold tak
 show ¬ 0 < (if av p' y.f0 < y.f1 - offOf p y then av p' y.f0 else y.f1 - offOf p y)
 rw [h1]
 unfold offOf tak
 split <;> split <;> (try split) <;> (try split) <;> omega
theorem Pair.step {s s' s2 : List S79} {used : List Bool} {left : List S48} (P : Pair s s' used left) {b : Nat} (hb : b < s.length) (hu : used.getD b false = false)
  (g2 : stockOk s2 = true) (g3 : s2.length = s'.length) (g4 : ∀ i, i ≠ b → podAtN s2 i = podAtN s' i) (g6 : ∀ it ∈ left, av (podAtN s2 b) it.f0 = av (podAtN s b) it.f0 - offOf (podAtN s b) it) : Pair s s2 (used.set b true) (left.map (dec (podAtN s b))) := by
 have us : ∀ i : Nat, (used.set b true).getD i false = if i = b then true else used.getD i false := fun i => by
  have := P.ulen
  rw [List.getD_eq_getElem?_getD, List.getElem?_set, List.getD_eq_getElem?_getD]
  by_cases e : i = b
  ·subst e; simp [this, hb]
  ·rw [if_neg (fun h => e h.symm), if_neg e]
 refine ⟨P.ok, g2, by rw [g3, P.len], by rw [List.length_set]; exact P.ulen, P.lft.dec _, fun i hi h => ?_, fun i hi h => ?_⟩
 ·rw [us] at h
  by_cases e : i = b
  ·rw [if_pos e] at h; cases h
  ·rw [if_neg e] at h; rw [g4 i e]; exact P.free i hi h
 ·rw [us] at h
  by_cases e : i = b
  ·subst e; exact couldN_held P.lft g6
  ·rw [if_neg e] at h; rw [g4 i e]; exact couldN_less P.lft (P.done i hi h)
theorem impl_eachHold_l0 (s : List S79) (hs : BigS s) (p : List S50) (hp : p.length ≤ 1048576) : ∀ (d i : Nat) (out : List S79), i + d = p.length → BigS out → Ev (fun k => impl_eachHold.l0 k s p i out) (eachOf (opOf 1) s (p.drop i) out)
 | 0, i, out, e, h => Ev.unroll (by
   simp only [impl_eachHold.l0]
   rw [drop_end (by omega)]
   exact Ev.ifn (by omega) (Ev.now _))
 | d + 1, i, out, e, h => by
   have hi : i < p.length := by omega
   have er : rd_T50 p i = p[i] := rd_struct_at hi
   have ih := impl_eachHold_l0 s hs p hp d (i + 1) (opOf 1 out p[i].f0 p[i].f1 p[i].f2).1 (by omega) (opOf_big 1 out _ _ _ h)
   refine Ev.unroll ?_
   simp only [impl_eachHold.l0, er, wrap_sc (show i < 9223372036854775807 by omega)]
   rw [drop_cons hi, eachOf]
   have e1 : opOf 1 out p[i].f0 p[i].f1 p[i].f2 = heldOf out p[i].f0 p[i].f1 p[i].f2 p[i].f2 := by unfold opOf; rw [if_pos rfl]
   rw [e1] at ih ⊢
   refine Ev.ifp (by omega) (Ev.ifp (by omega) (Ev.bind (impl_Hold_f out _ _ _ h.1 h.2) ?_))
   by_cases h0 : (heldOf out p[i].f0 p[i].f1 p[i].f2 p[i].f2).2 = 0
   ·rw [if_pos h0]; exact Ev.ifp h0 ih
   ·rw [if_neg h0]; exact Ev.ifn h0 (Ev.bind (impl_copyStock_f s hs.1 hs.2) (Ev.now _))
theorem impl_HoldAll_f (s : List S79) (hs : BigS s) (p : List S50) (hp : p.length ≤ 1048576) : Ev (fun k => impl_HoldAll.f k s p) (eachOf (opOf 1) s p s) := by
 unfold impl_HoldAll.f impl_eachHold.f
 exact Ev.bind (impl_copyStock_f s hs.1 hs.2) (impl_eachHold_l0 s hs p hp p.length 0 s (by omega) hs)
theorem less_dec (p : S79) {left : List S48} (hl : Left left) : nz ((nz left).map (fun it => (⟨it.f0, it.f1 - same (couldL p left) it.f0⟩ : S48))) = nz (left.map (dec p)) := by
 rw [← nz_dec p hl]
 congr 1
 refine List.map_congr_left fun it hit => ?_
 show (⟨it.f0, it.f1 - same (couldL p left) it.f0⟩ : S48) = ⟨it.f0, it.f1 - offOf p it⟩
 rw [← (could_nz p hl).1, same_off p hl.nz it hit]
theorem items_left {l : List S48} (h : itemsOk l = true) : Left l ∧ nz l = l := by
 unfold itemsOk at h
 simp only [Bool.and_eq_true, decide_eq_true_eq, allFrom_iff] at h
 have hk : ∀ j, j < l.length → (1 ≤ (l.getD j z48).f0 ∧ (l.getD j z48).f0 ≤ 50 ∧ 1 ≤ (l.getD j z48).f1 ∧ (l.getD j z48).f1 ≤ 1000) ∧ (0 < j → (l.getD (j - 1) z48).f0 < (l.getD j z48).f0) := fun j hj => by
  have := h.1 j (by omega) hj
  unfold itemAt at this
  simp only [Bool.and_eq_true, Bool.or_eq_true, inB_iff, decide_eq_true_eq, beq_iff_eq] at this
  exact ⟨⟨this.1.1.1, this.1.1.2, this.1.2.1, this.1.2.2⟩, fun h0 => by rcases this.2 with h | h; omega; exact h⟩
 have step : ∀ (j i : Nat), i < j → j < l.length → (l.getD i z48).f0 < (l.getD j z48).f0 := by
  intro j
  induction j with
  | zero => intro i h; omega
  | succ j ih =>
   intro i h1 h2
   have h3 := (hk (j + 1) h2).2 (by omega)
   rw [Nat.add_sub_cancel] at h3
   by_cases e : i = j
   ·subst e; exact h3
   ·exact Int.lt_trans (ih i (by omega) (by omega)) h3
 have num : ∀ x ∈ l, 1 ≤ x.f0 ∧ x.f0 ≤ 50 ∧ 1 ≤ x.f1 ∧ x.f1 ≤ 1000 := fun x hx => by
  obtain ⟨j, hj, rfl⟩ := List.mem_iff_getElem.1 hx
  have := (hk j hj).1
  rwa [getD_at hj] at this
 refine ⟨⟨h.2, fun x hx => by have := num x hx; omega, List.pairwise_iff_getElem.2 fun i j hi hj hij => ?_⟩, ?_⟩
 ·have := step j i hij hj
  rwa [getD_at hi, getD_at hj] at this
 ·unfold nz
  rw [List.filter_eq_self]
  intro x hx
  have := num x hx
  simp; omega

def heldAt (l : List S79) (b : Nat) (sku : Int) : Int := (stackOf (podAtN l b).f2 sku).f2
def dem : List S50 → Int → Int → Int
 | [], _, _ => 0
 | q :: t, id, sku => (if q.f0 = id ∧ q.f1 = sku then q.f2 else 0) + dem t id sku
theorem eachOf_app (O : List S79 → Int → Int → Int → List S79 × Int) (s : List S79) (b : List S50) : ∀ (a : List S50) (out x : List S79), eachOf O s a out = (x, true) → eachOf O s (a ++ b) out = eachOf O s b x
 | [], out, x, h => by
  unfold eachOf at h
  rw [List.nil_append, (Prod.mk.inj h).1]
 | p :: ps, out, x, h => by
  unfold eachOf at h
  rw [List.cons_append, eachOf]
  split at h
  ·rename_i h0
   rw [if_pos h0]
   exact eachOf_app O s b ps _ x h
  ·cases h
theorem same_app (a b : List S50) (k : Int) : same (a ++ b) k = same a k + same b k := by
 induction a with
 | nil => simp [same]
 | cons q t ih => rw [List.cons_append, same, same, ih]; omega
def shapeP (p : S79) : Int × Int × List (Int × Int) := (p.f0, p.f1, p.f2.map (fun x => (x.f0, x.f1)))
structure Turn (l l' : List S79) (b : Nat) (sku more : Int) : Prop where
 ok : stockOk l' = true
 shape : l'.map shapeP = l.map shapeP
 held : ∀ (i : Nat) (k : Int), heldAt l' i k = heldAt l i k + if i = b ∧ k = sku then more else 0
theorem Turn.len {l l' : List S79} {b : Nat} {sku more : Int} (t : Turn l l' b sku more) : l'.length = l.length := by
 have := congrArg List.length t.shape
 simpa using this
theorem shape_at {l l' : List S79} (h : l'.map shapeP = l.map shapeP) (i : Nat) : shapeP (podAtN l' i) = shapeP (podAtN l i) := by
 have e : ∀ m : List S79, shapeP (podAtN m i) = (m.map shapeP).getD i (shapeP z79) := fun m => by
  unfold podAtN
  rw [List.getD_eq_getElem?_getD, List.getD_eq_getElem?_getD, List.getElem?_map]
  cases m[i]? <;> rfl
 rw [e, e, h]
theorem held_turn {l : List S79} {id sku n more : Int} (h : (heldOf l id sku n more).2 = 0) : ∃ b : Nat, AskAt l id sku n b ∧ hitAt (podAtN l b).f2 sku = true ∧ Turn l (heldOf l id sku n more).1 b sku more := by
 by_cases ha : askOk l sku n = true
 ·by_cases h0 : 0 ≤ podIdx l id
  ·obtain ⟨b, a⟩ := ask_at ha h0
   rw [heldOf_at a more] at h ⊢
   split at h
   ·rename_i hc
    rw [if_pos hc]
    have hN := (stacks_facts a.pf.stacks).2 (stackOf (podAtN l b).f2 sku) (by
     have h1 := (hit_facts a.pf.stacks sku).1 hc.1
     rw [← h1.2]; unfold stackAt; rw [getD_at h1.1]; exact List.getElem_mem _)
    have h1 := (hit_facts a.pf.stacks sku).1 hc.1
    have h2 := (hit_stack (sku := sku) (stacks_facts a.pf.stacks).1).1 hc.1
    have sf := set_facts a.pf.stacks hc.1 (N := (stackOf (podAtN l b).f2 sku).f1) (H := (stackOf (podAtN l b).f2 sku).f2 + more) (by omega) (by omega)
    obtain ⟨a2, e2⟩ := a.set (p := setPod (podAtN l b) sku (stackOf (podAtN l b).f2 sku).f1 ((stackOf (podAtN l b).f2 sku).f2 + more)) rfl rfl (setPod_ok a.pf hc.1 (by omega) (by omega))
    refine ⟨b, a, hc.1, a2.ok, ?_, fun i k => ?_⟩
    ·show (l.set b _).map shapeP = _
     rw [List.map_set]
     have es : shapeP (setPod (podAtN l b) sku (stackOf (podAtN l b).f2 sku).f1 ((stackOf (podAtN l b).f2 sku).f2 + more)) = shapeP (podAtN l b) := by
      unfold shapeP setPod
      dsimp only
      rw [List.map_set]
      have hm : lowIdx (podAtN l b).f2 sku < ((podAtN l b).f2.map (fun x => (x.f0, x.f1))).length := by rw [List.length_map]; exact h1.1
      have e5 : (sku, (stackOf (podAtN l b).f2 sku).f1) = ((podAtN l b).f2.map (fun x => (x.f0, x.f1)))[lowIdx (podAtN l b).f2 sku]'hm := by
       rw [List.getElem_map]
       have e6 : (podAtN l b).f2[lowIdx (podAtN l b).f2 sku]'h1.1 = stackOf (podAtN l b).f2 sku := by
        exact Eq.trans (by unfold stackAt; exact (getD_at h1.1).symm) h1.2
       rw [e6, h2.2]
      rw [e5, set_id _ _ hm]
     rw [es]
     have hm : b < (l.map shapeP).length := by rw [List.length_map]; exact a.hb
     have e7 : shapeP (podAtN l b) = (l.map shapeP)[b]'hm := by
      rw [List.getElem_map]; unfold podAtN; rw [getD_at a.hb]
     rw [e7, set_id _ _ hm]
    ·show heldAt (l.set b _) i k = _
     unfold heldAt
     rw [podAtN_set a.hb]
     by_cases e : i = b
     ·rw [if_pos e]
      have := sf.of k
      unfold setPod
      dsimp only
      rw [this]
      by_cases e3 : k = sku
      ·rw [if_pos e3, if_pos ⟨e, e3⟩, e, e3]
      ·rw [if_neg e3, if_neg (fun h => e3 h.2), e]; omega
     ·rw [if_neg e, if_neg (fun h => e h.1)]; omega
   ·cases h
  ·exfalso
   unfold heldOf at h
   rw [if_pos ha, if_neg h0] at h
   cases h
 ·exfalso
  unfold heldOf at h
  rw [if_neg ha] at h
  cases h
structure Turns (l l' : List S79) (f : Int → Int → Int) : Prop where
 ok : stockOk l' = true
 shape : l'.map shapeP = l.map shapeP
 held : ∀ (i : Nat) (k : Int), i < l.length → heldAt l' i k = heldAt l i k + f (podAtN l i).f0 k
theorem Turns.len {l l' : List S79} {f : Int → Int → Int} (t : Turns l l' f) : l'.length = l.length := by
 have := congrArg List.length t.shape
 simpa using this
theorem shape_id {l l' : List S79} (h : l'.map shapeP = l.map shapeP) (i : Nat) : (podAtN l' i).f0 = (podAtN l i).f0 := congrArg (fun x => x.1) (shape_at h i)
def PickOk (l : List S79) (q : S50) : Prop := ∃ b : Nat, AskAt l q.f0 q.f1 q.f2 b ∧ hitAt (podAtN l b).f2 q.f1 = true
theorem idx_id {l : List S79} {id : Int} {b : Nat} (h : podIdx l id = (b : Int)) : (podAtN l b).f0 = id := by
 unfold podIdx at h
 split at h
 ·rename_i i e
  obtain rfl : i = b := by omega
  obtain ⟨hi, h2, _⟩ := List.findIdx?_eq_some_iff_getElem.1 e
  unfold podAtN
  rw [getD_at hi]
  simpa using h2
 ·omega
theorem shape_hit {s s' : List S72} (h : s'.map (fun x => (x.f0, x.f1)) = s.map (fun x => (x.f0, x.f1))) (sku : Int) : lowIdx s' sku = lowIdx s sku ∧ hitAt s' sku = hitAt s sku ∧ (stackOf s' sku).f1 = (stackOf s sku).f1 := by
 induction s generalizing s' with
 | nil =>
  have : s' = [] := by simpa using h
  subst this; exact ⟨rfl, rfl, rfl⟩
 | cons x t ih =>
  cases s' with
  | nil => simp at h
  | cons y t' =>
   simp only [List.map_cons, List.cons.injEq, Prod.mk.injEq] at h
   obtain ⟨i1, i2, i3⟩ := ih h.2
   have el := lowIdx_cons x t sku
   have el' := lowIdx_cons y t' sku
   rw [h.1.1, i1] at el'
   have e1 : lowIdx (y :: t') sku = lowIdx (x :: t) sku := by rw [el, el']
   have len : t'.length = t.length := by have := congrArg List.length h.2; simpa using this
   refine ⟨e1, ?_, ?_⟩
   ·by_cases c : x.f0 < sku
    ·rw [if_pos c] at el el'
     unfold hitAt stackAt at i2 ⊢
     rw [el', el, List.getD_cons_succ, List.getD_cons_succ, List.length_cons, List.length_cons]
     simp only [Nat.add_lt_add_iff_right]
     rw [i1] at i2
     exact i2
    ·rw [if_neg c] at el el'
     unfold hitAt stackAt
     rw [el', el]
     show (_ && (y.f0 == sku)) = (_ && (x.f0 == sku))
     rw [h.1.1, List.length_cons, List.length_cons, len]
   ·unfold stackOf at i3 ⊢
    rw [List.find?_cons, List.find?_cons, h.1.1]
    cases (x.f0 == sku)
    ·exact i3
    ·exact h.1.2
theorem shape_idx {l l' : List S79} (h : l'.map shapeP = l.map shapeP) (id : Int) : podIdx l' id = podIdx l id := by
 induction l generalizing l' with
 | nil =>
  have : l' = [] := by simpa using h
  subst this; rfl
 | cons p t ih =>
  cases l' with
  | nil => simp at h
  | cons p' t' =>
   rw [List.map_cons, List.map_cons, List.cons.injEq] at h
   have e0 : p'.f0 = p.f0 := congrArg (fun x => x.1) h.1
   rw [podIdx_cons, podIdx_cons, e0, ih h.2]
theorem AskAt.move {l l' : List S79} {id sku n : Int} {b : Nat} (a : AskAt l id sku n b) (ok : stockOk l' = true) (h : l'.map shapeP = l.map shapeP) : AskAt l' id sku n b := by
 have len : l'.length = l.length := by have := congrArg List.length h; simpa using this
 refine ⟨by have := a.hb; omega, by rw [shape_idx h]; exact a.idx, ok, ?_, a.sku, a.n, (stock_pods ok).2 b (by have := a.hb; omega)⟩
 have := a.ask
 unfold askOk at this ⊢
 simp only [Bool.and_eq_true] at this ⊢
 exact ⟨ok, this.2⟩
theorem PickOk.move {l l' : List S79} {q : S50} (h : PickOk l q) (ok : stockOk l' = true) (hs : l'.map shapeP = l.map shapeP) : PickOk l' q := by
 obtain ⟨b, a, hit⟩ := h
 refine ⟨b, a.move ok hs, ?_⟩
 have := shape_at hs b
 have e2 : (podAtN l' b).f2.map (fun x => (x.f0, x.f1)) = (podAtN l b).f2.map (fun x => (x.f0, x.f1)) := congrArg (fun x => x.2.2) this
 rw [(shape_hit e2 q.f1).2.1]; exact hit
theorem each_held (s0 : List S79) (v : Int) (g : Int → Int) (hO : ∀ l id sku n, opOf v l id sku n = heldOf l id sku n (g n)) : ∀ (ps : List S50) (s s' : List S79), stockOk s = true → eachOf (opOf v) s0 ps s = (s', true) →
  Turns s s' (fun id k => (ps.map (fun q => if q.f0 = id ∧ q.f1 = k then g q.f2 else 0)).sum) ∧ ∀ q ∈ ps, PickOk s q
 | [], s, s', hok, h => by
  unfold eachOf at h
  obtain rfl := (Prod.mk.inj h).1
  exact ⟨⟨hok, rfl, fun i k hi => by simp⟩, fun q hq => by simp at hq⟩
 | p :: ps, s, s', hok, h => by
  unfold eachOf at h
  split at h
  ·rename_i h0
   rw [hO] at h0 h
   obtain ⟨b, a, hit, t⟩ := held_turn h0
   obtain ⟨T, K⟩ := each_held s0 v g hO ps _ s' t.ok h
   have len := t.len
   refine ⟨⟨T.ok, T.shape.trans t.shape, fun i k hi => ?_⟩, fun q hq => ?_⟩
   ·rw [T.held i k (by omega), t.held i k, shape_id t.shape i, List.map_cons, List.sum_cons]
    have e : (i = b ∧ k = p.f1) ↔ (p.f0 = (podAtN s i).f0 ∧ p.f1 = k) := by
     have hbid := idx_id a.idx
     constructor
     ·rintro ⟨rfl, rfl⟩; exact ⟨hbid.symm, rfl⟩
     ·rintro ⟨e1, rfl⟩
      refine ⟨?_, rfl⟩
      rw [← hbid] at e1
      have o := stock_ids hok
      have := a.hb
      rcases Nat.lt_trichotomy i b with h | h | h
      ·have := o i b h (by omega); omega
      ·exact h
      ·have := o b i h hi; omega
    by_cases c : i = b ∧ k = p.f1
    ·rw [if_pos c, if_pos (e.1 c)]; omega
    ·rw [if_neg c, if_neg (fun h => c (e.2 h))]; omega
   ·rcases List.mem_cons.1 hq with rfl | hq
    ·exact ⟨b, a, hit⟩
    ·exact (K q hq).move hok t.shape.symm
  ·cases h

theorem held_free {l : List S79} {id sku n more : Int} (h : (heldOf l id sku n more).2 = 0) (k : Int) : freeOf (heldOf l id sku n more).1 k = freeOf l k - if k = sku then more else 0 := by
 obtain ⟨b, a, hit, t⟩ := held_turn h
 have ok2 := t.ok
 rw [heldOf_at a more] at h ok2 ⊢
 split at h
 ·rename_i hc
  rw [if_pos hc] at ok2 ⊢
  have hN := (stacks_facts a.pf.stacks).2 (stackOf (podAtN l b).f2 sku) (by
   have h1 := (hit_facts a.pf.stacks sku).1 hc.1
   rw [← h1.2]; unfold stackAt; rw [getD_at h1.1]; exact List.getElem_mem _)
  have sf := set_facts a.pf.stacks hc.1 (N := (stackOf (podAtN l b).f2 sku).f1) (H := (stackOf (podAtN l b).f2 sku).f2 + more) (by omega) (by omega)
  show freeOf (l.set b _) k = _
  rw [freeOf_sum ok2, freeOf_sum a.ok, sumM_set _ _ _ _ a.hb]
  have e3 : av (setPod (podAtN l b) sku (stackOf (podAtN l b).f2 sku).f1 ((stackOf (podAtN l b).f2 sku).f2 + more)) k = av (podAtN l b) k - if k = sku then more else 0 := by
   have := sf.of k
   unfold av setPod
   dsimp only
   rw [this]
   by_cases e : k = sku
   ·rw [if_pos e, if_pos e, e]; dsimp only; omega
   ·rw [if_neg e, if_neg e]; omega
  rw [e3]; omega
 ·cases h
theorem opOf_one (l : List S79) (id sku n : Int) : opOf 1 l id sku n = heldOf l id sku n n := by unfold opOf; rw [if_pos rfl]
theorem opOf_two (l : List S79) (id sku n : Int) : opOf 2 l id sku n = heldOf l id sku n (-n) := by unfold opOf; rw [if_neg (by decide), if_pos rfl]
theorem opOf_three (l : List S79) (id sku n : Int) : opOf 3 l id sku n = takeOf l id sku n := by unfold opOf; rw [if_neg (by decide), if_neg (by decide)]
theorem each_free (s0 : List S79) (k : Int) : ∀ (ps : List S50) (s s' : List S79), eachOf (opOf 1) s0 ps s = (s', true) → freeOf s' k = freeOf s k - same ps k
 | [], s, s', h => by
  unfold eachOf at h
  obtain rfl := (Prod.mk.inj h).1
  simp [same]
 | p :: ps, s, s', h => by
  unfold eachOf at h
  split at h
  ·rename_i h0
   rw [opOf_one] at h0 h
   rw [each_free s0 k ps _ s' h, held_free h0 k, same]
   by_cases e : k = p.f1
   ·rw [if_pos e, if_pos e.symm]; omega
   ·rw [if_neg e, if_neg (fun h => e h.symm)]; omega
  ·cases h
def PickAt (l : List S79) (q : S50) : Prop := ∃ b : Nat, AskAt l q.f0 q.f1 q.f2 b
theorem dem_nonneg {l : List S79} : ∀ {ps : List S50}, (∀ q ∈ ps, PickAt l q) → ∀ id k : Int, 0 ≤ dem ps id k
 | [], _, _, _ => by simp [dem]
 | q :: t, h, id, k => by
  have ih := dem_nonneg (fun x hx => h x (List.mem_cons_of_mem _ hx)) id k
  obtain ⟨b, a⟩ := h q List.mem_cons_self
  have := a.n
  unfold dem
  split <;> omega
theorem id_eq {s : List S79} (hok : stockOk s = true) {i b : Nat} (hi : i < s.length) (hb : b < s.length) : (podAtN s b).f0 = (podAtN s i).f0 ↔ i = b := by
 have o := stock_ids hok
 constructor
 ·intro e
  rcases Nat.lt_trichotomy i b with h | h | h
  ·have := o i b h hb; omega
  ·exact h
  ·have := o b i h hi; omega
 ·rintro rfl; rfl
theorem each_release (s0 : List S79) : ∀ (ps : List S50) (l : List S79), stockOk l = true → (∀ q ∈ ps, PickAt l q) → (∀ (i : Nat) (k : Int), i < l.length → dem ps (podAtN l i).f0 k ≤ heldAt l i k) → ∃ s' : List S79, eachOf (opOf 2) s0 ps l = (s', true)
 | [], l, _, _, _ => ⟨l, rfl⟩
 | q :: ps, l, hok, hp, hd => by
  obtain ⟨b, a⟩ := hp q List.mem_cons_self
  have hb := hd b q.f1 a.hb
  have hid := idx_id a.idx
  have h0 := dem_nonneg (fun x hx => hp x (List.mem_cons_of_mem _ hx)) (podAtN l b).f0 q.f1
  rw [dem, if_pos ⟨hid.symm, rfl⟩] at hb
  have hn := a.n
  have hit : hitAt (podAtN l b).f2 q.f1 = true := by
   cases e : hitAt (podAtN l b).f2 q.f1 with
   | true => rfl
   | false => have := (hit_facts a.pf.stacks q.f1).2 e; unfold heldAt at hb; omega
  have hbd := stackOf_bounds a.pf.stacks q.f1
  have e0 : (heldOf l q.f0 q.f1 q.f2 (-q.f2)).2 = 0 := by
   rw [heldOf_at a (-q.f2)]
   unfold heldAt at hb
   rw [if_pos ⟨hit, by omega, by omega⟩]
  obtain ⟨b2, a2, hit2, t⟩ := held_turn e0
  have eb : b2 = b := by have := a2.idx; have := a.idx; omega
  subst eb
  have len := t.len
  obtain ⟨s', e⟩ := each_release s0 ps _ t.ok (fun x hx => by
   obtain ⟨b', a'⟩ := hp x (List.mem_cons_of_mem _ hx)
   exact ⟨b', a'.move t.ok t.shape⟩) (fun i k hi => by
   have h1 := hd i k (by omega)
   rw [t.held i k, shape_id t.shape i]
   rw [dem] at h1
   by_cases c : i = b2 ∧ k = q.f1
   ·rw [if_pos c]
    rw [if_pos ⟨by rw [c.1]; exact hid.symm, c.2.symm⟩] at h1
    omega
   ·rw [if_neg c]
    rw [if_neg (fun h => c ⟨(id_eq hok (by omega) a.hb).1 (hid.trans h.1), h.2.symm⟩)] at h1
    omega)
  refine ⟨s', ?_⟩
  rw [eachOf, opOf_two, if_pos e0]
  exact e
theorem gone_facts {s : List S72} (hs : stacksOk s = true) {sku : Int} (hit : hitAt s sku = true) : stacksOk (s.take (lowIdx s sku) ++ s.drop (lowIdx s sku + 1)) = true ∧ ∀ k : Int, stackOf (s.take (lowIdx s sku) ++ s.drop (lowIdx s sku + 1)) k = if k = sku then ⟨sku, 0, 0⟩ else stackOf s k := by
 have f := stacks_facts hs
 have h1 := (hit_facts hs sku).1 hit
 have h2 := (hit_stack (sku := sku) f.1).1 hit
 have e0 : (s[lowIdx s sku]'h1.1).f0 = sku := by
  have e1 : stackOf s sku = s[lowIdx s sku]'h1.1 := h1.2.symm.trans (by unfold stackAt; exact getD_at h1.1)
  rw [← e1]; exact h2.2
 have es : s.take (lowIdx s sku) ++ s.drop (lowIdx s sku + 1) = s.eraseIdx (lowIdx s sku) := (List.eraseIdx_eq_take_drop_succ s (lowIdx s sku)).symm
 have hsub : (s.eraseIdx (lowIdx s sku)).Sublist s := List.eraseIdx_sublist s _
 rw [es]
 refine ⟨stacksOk_of (f.1.sublist hsub) (fun x hx => f.2 x (hsub.subset hx)), fun k => ?_⟩
 have key : ∀ (s : List S72) (j : Nat) (hj : j < s.length), s.Pairwise (fun a b => a.f0 < b.f0) → ∀ k : Int, stackOf (s.eraseIdx j) k = if k = s[j].f0 then ⟨s[j].f0, 0, 0⟩ else stackOf s k := by
  intro s
  induction s with
  | nil => intro j hj; simp at hj
  | cons y t ih =>
   intro j hj hp k
   have hs := List.pairwise_cons.1 hp
   cases j with
   | zero =>
    rw [List.eraseIdx_cons_zero, List.getElem_cons_zero]
    by_cases e : k = y.f0
    ·rw [if_pos e]
     unfold stackOf
     rw [List.find?_eq_none.2 (fun z hz => by have := hs.1 z hz; simp; omega), e]; rfl
    ·rw [if_neg e]
     unfold stackOf
     rw [List.find?_cons, show (y.f0 == k) = false by rw [beq_eq_false_iff_ne]; omega]
   | succ j =>
    have hj2 : j < t.length := by simpa using hj
    have := ih j hj2 hs.2 k
    rw [List.eraseIdx_cons_succ, List.getElem_cons_succ]
    have hlt := hs.1 _ (List.getElem_mem hj2)
    unfold stackOf at this ⊢
    rw [List.find?_cons, List.find?_cons]
    by_cases e : y.f0 = k
    ·rw [if_neg (by omega), show (y.f0 == k) = true by rw [beq_iff_eq]; exact e]
    ·rw [show (y.f0 == k) = false by rw [beq_eq_false_iff_ne]; exact e]; exact this
 have := key s (lowIdx s sku) h1.1 f.1 k
 rw [e0] at this
 exact this
theorem take_turn {l : List S79} {id sku n : Int} {b : Nat} (a : AskAt l id sku n b) (hh : n ≤ heldAt l b sku) : ∃ l' : List S79, takeOf l id sku n = (l', 0) ∧ stockOk l' = true ∧ (∀ j : Nat, (podAtN l' j).f0 = (podAtN l j).f0) ∧ l'.length = l.length ∧ (∀ x, podIdx l' x = podIdx l x) ∧
  (∀ (i : Nat) (k : Int), heldAt l' i k = heldAt l i k - if i = b ∧ k = sku then n else 0) ∧ ∀ k : Int, countOf l' k = countOf l k - if k = sku then n else 0 := by
 have hn := a.n
 have hbd := stackOf_bounds a.pf.stacks sku
 have hit : hitAt (podAtN l b).f2 sku = true := by
  cases e : hitAt (podAtN l b).f2 sku with
  | true => rfl
  | false => have := (hit_facts a.pf.stacks sku).2 e; unfold heldAt at hh; omega
 have hh2 : n ≤ (stackOf (podAtN l b).f2 sku).f2 := hh
 have hlow := lowIdx_le (podAtN l b).f2 sku
 obtain ⟨k1, k2, k3⟩ : stacksOk (takenStacks (podAtN l b).f2 sku n) = true ∧ (takenStacks (podAtN l b).f2 sku n).length ≤ 8 ∧ ∀ k : Int, stackOf (takenStacks (podAtN l b).f2 sku n) k = if k = sku then ⟨sku, (stackOf (podAtN l b).f2 sku).f1 - n, (stackOf (podAtN l b).f2 sku).f2 - n⟩ else stackOf (podAtN l b).f2 k := by
  unfold takenStacks
  have h8 := a.pf.len
  split
  ·rename_i hz
   have g := gone_facts a.pf.stacks hit
   refine ⟨g.1, by simp; omega, fun k => ?_⟩
   rw [g.2 k, show (stackOf (podAtN l b).f2 sku).f1 - n = 0 by omega, show (stackOf (podAtN l b).f2 sku).f2 - n = 0 by omega]
  ·rename_i hz
   have g := set_facts a.pf.stacks hit (N := (stackOf (podAtN l b).f2 sku).f1 - n) (H := (stackOf (podAtN l b).f2 sku).f2 - n) (by omega) (by omega)
   exact ⟨g.ok, by rw [List.length_set]; exact h8, g.of⟩
 have pk : podOk (⟨(podAtN l b).f0, (podAtN l b).f1, takenStacks (podAtN l b).f2 sku n⟩ : S79) = true := podOk_of a.pf.id a.pf.home k2 k1
 obtain ⟨a2, e2⟩ := a.set (p := ⟨(podAtN l b).f0, (podAtN l b).f1, takenStacks (podAtN l b).f2 sku n⟩) rfl rfl pk
 refine ⟨_, by rw [takeOf_at a, if_pos ⟨hit, hh2⟩], a2.ok, fun j => ?_, List.length_set, fun x => podIdx_set l x b _ (fun h => by unfold podAtN; rw [getD_at h]), fun i k => ?_, fun k => ?_⟩
 ·rw [podAtN_set a.hb]; split
  ·rename_i e; rw [e]
  ·rfl
 ·unfold heldAt
  rw [podAtN_set a.hb]
  by_cases e : i = b
  ·rw [if_pos e, k3 k]
   by_cases e3 : k = sku
   ·rw [if_pos e3, if_pos ⟨e, e3⟩, e, e3]
   ·rw [if_neg e3, if_neg (fun h => e3 h.2), e]; omega
  ·rw [if_neg e, if_neg (fun h => e h.1)]; omega
 ·rw [countOf_sum a2.ok, countOf_sum a.ok, sumM_set _ _ _ _ a.hb]
  dsimp only
  rw [k3 k]
  by_cases e3 : k = sku
  ·rw [if_pos e3, if_pos e3, e3]; dsimp only; omega
  ·rw [if_neg e3, if_neg e3]; omega
theorem each_take (s0 : List S79) (k : Int) : ∀ (ps : List S50) (l : List S79), stockOk l = true → (∀ q ∈ ps, PickAt l q) → (∀ (i : Nat) (k : Int), i < l.length → dem ps (podAtN l i).f0 k ≤ heldAt l i k) → ∃ s' : List S79, eachOf (opOf 3) s0 ps l = (s', true) ∧ countOf s' k = countOf l k - same ps k
 | [], l, _, _, _ => ⟨l, rfl, by simp [same]⟩
 | q :: ps, l, hok, hp, hd => by
  obtain ⟨b, a⟩ := hp q List.mem_cons_self
  have hb := hd b q.f1 a.hb
  have hid := idx_id a.idx
  have h0 := dem_nonneg (fun x hx => hp x (List.mem_cons_of_mem _ hx)) (podAtN l b).f0 q.f1
  rw [dem, if_pos ⟨hid.symm, rfl⟩] at hb
  have hn := a.n
  obtain ⟨l', e0, ok2, ids, len, idx, hel, cnt⟩ := take_turn a (by omega)
  obtain ⟨s', e, ec⟩ := each_take s0 k ps l' ok2 (fun x hx => by
   obtain ⟨b', a'⟩ := hp x (List.mem_cons_of_mem _ hx)
   refine ⟨b', by have := a'.hb; omega, by rw [idx]; exact a'.idx, ok2, ?_, a'.sku, a'.n, (stock_pods ok2).2 b' (by have := a'.hb; omega)⟩
   have := a'.ask
   unfold askOk at this ⊢
   simp only [Bool.and_eq_true] at this ⊢
   exact ⟨ok2, this.2⟩) (fun i k hi => by
   have h1 := hd i k (by omega)
   rw [hel i k, ids i]
   rw [dem] at h1
   by_cases c : i = b ∧ k = q.f1
   ·rw [if_pos c]
    rw [if_pos ⟨by rw [c.1]; exact hid.symm, c.2.symm⟩] at h1
    omega
   ·rw [if_neg c]
    rw [if_neg (fun h => c ⟨(id_eq hok (by omega) a.hb).1 (hid.trans h.1), h.2.symm⟩)] at h1
    omega)
  refine ⟨s', ?_, ?_⟩
  ·rw [eachOf, opOf_three, e0, if_pos rfl]
   exact e
  ·rw [ec, cnt k, same]
   by_cases e : k = q.f1
   ·rw [if_pos e, if_pos e.symm]; omega
   ·rw [if_neg e, if_neg (fun h => e h.symm)]; omega
theorem stacks_ext : ∀ {s s' : List S72}, s.Pairwise (fun a b => a.f0 < b.f0) → s'.map (fun x => (x.f0, x.f1)) = s.map (fun x => (x.f0, x.f1)) → (∀ k : Int, (stackOf s' k).f2 = (stackOf s k).f2) → s' = s
 | [], s', _, h, _ => by simpa using h
 | x :: t, [], _, h, _ => by simp at h
 | x :: t, y :: t', hp, h, hk => by
  simp only [List.map_cons, List.cons.injEq, Prod.mk.injEq] at h
  have hs := List.pairwise_cons.1 hp
  have h0 := hk x.f0
  have hx : stackOf (x :: t) x.f0 = x := by unfold stackOf; rw [List.find?_cons]; simp
  have hy : stackOf (y :: t') x.f0 = y := by unfold stackOf; rw [List.find?_cons, h.1.1]; simp
  rw [hx, hy] at h0
  have ht : ∀ z ∈ t', x.f0 < z.f0 := fun z hz => by
   have : z.f0 ∈ t'.map (fun x => x.f0) := List.mem_map.2 ⟨z, hz, rfl⟩
   have e2 : t'.map (fun x => x.f0) = t.map (fun x => x.f0) := by
    have := congrArg (List.map (fun p : Int × Int => p.1)) h.2
    rw [List.map_map, List.map_map] at this; exact this
   rw [e2] at this
   obtain ⟨z2, h2, h3⟩ := List.mem_map.1 this
   have := hs.1 z2 h2
   omega
  have et : t' = t := stacks_ext hs.2 h.2 (fun k => by
   by_cases e : k = x.f0
   ·subst e
    have n1 : stackOf t' x.f0 = ⟨x.f0, 0, 0⟩ := by unfold stackOf; rw [List.find?_eq_none.2 (fun z hz => by have := ht z hz; simp; omega)]; rfl
    have n2 : stackOf t x.f0 = ⟨x.f0, 0, 0⟩ := by unfold stackOf; rw [List.find?_eq_none.2 (fun z hz => by have := hs.1 z hz; simp; omega)]; rfl
    rw [n1, n2]
   ·have := hk k
    unfold stackOf at this ⊢
    rw [List.find?_cons, List.find?_cons, h.1.1, show (x.f0 == k) = false by rw [beq_eq_false_iff_ne]; omega] at this
    exact this)
  have ex : y = x := by cases x; cases y; simp only at h h0; obtain ⟨⟨rfl, rfl⟩, _⟩ := h; subst h0; rfl
  rw [ex, et]
theorem stock_ext {s s' : List S79} (hok : stockOk s = true) (h : s'.map shapeP = s.map shapeP) (hk : ∀ (i : Nat) (k : Int), i < s.length → heldAt s' i k = heldAt s i k) : s' = s := by
 have len : s'.length = s.length := by have := congrArg List.length h; simpa using this
 apply List.ext_getElem len
 intro i h1 h2
 have hs := shape_at h i
 have pf := (stock_pods hok).2 i h2
 have e1 : podAtN s' i = s'[i] := by unfold podAtN; exact getD_at h1
 have e2 : podAtN s i = s[i] := by unfold podAtN; exact getD_at h2
 have hst := stacks_ext (s := (podAtN s i).f2) (s' := (podAtN s' i).f2) (stacks_facts pf.stacks).1 (congrArg (fun x => x.2.2) hs) (fun k => hk i k h2)
 have f0 : (podAtN s' i).f0 = (podAtN s i).f0 := congrArg (fun x => x.1) hs
 have f1 : (podAtN s' i).f1 = (podAtN s i).f1 := congrArg (fun x => x.2.1) hs
 rw [← e1, ← e2]
 generalize podAtN s' i = p at *
 generalize podAtN s i = q at *
 cases p; cases q
 simp only at f0 f1 hst
 subst f0; subst f1; subst hst; rfl
theorem sum_dem (ps : List S50) (id k : Int) : (ps.map (fun q => if q.f0 = id ∧ q.f1 = k then q.f2 else 0)).sum = dem ps id k ∧ (ps.map (fun q => if q.f0 = id ∧ q.f1 = k then -q.f2 else 0)).sum = -dem ps id k := by
 induction ps with
 | nil => simp [dem]
 | cons q t ih =>
  rw [List.map_cons, List.sum_cons, List.map_cons, List.sum_cons, ih.1, ih.2, dem]
  split <;> omega
theorem all_back {s h : List S79} {ps : List S50} (hok : stockOk s = true) (s0 s1 s2 : List S79) (e : eachOf (opOf 1) s0 ps s = (h, true)) :
    eachOf (opOf 2) s1 ps h = (s, true) ∧ (∀ k : Int, 0 ≤ freeOf h k ∧ freeOf h k = freeOf s k - same ps k) ∧ (∀ k : Int, ∃ t : List S79, eachOf (opOf 3) s2 ps h = (t, true) ∧ countOf t k = countOf s k - same ps k) ∧ ∀ q ∈ ps, (1 ≤ q.f2 ∧ q.f2 ≤ 1000) ∧ ∃ j : Nat, j < s.length ∧ (podAtN s j).f0 = q.f0 := by
  obtain ⟨T, K⟩ := each_held s0 1 (fun n => n) (fun l id sku n => opOf_one l id sku n) ps s h hok e
  have K2 : ∀ q ∈ ps, PickAt h q := fun q hq => by
    obtain ⟨b, a, _⟩ := (K q hq).move T.ok T.shape
    exact ⟨b, a⟩
  have len := T.len
  have hd : ∀ (i : Nat) (k : Int), i < h.length → dem ps (podAtN h i).f0 k ≤ heldAt h i k := fun i k hi => by
    rw [T.held i k (by omega), shape_id T.shape i, (sum_dem ps _ k).1]
    have : 0 ≤ heldAt s i k := (stackOf_bounds ((stock_pods hok).2 i (by omega)).stacks k).2.2.1
    omega
  obtain ⟨r, er⟩ := each_release s1 ps h T.ok K2 hd
  obtain ⟨T2, _⟩ := each_held s1 2 (fun n => -n) (fun l id sku n => opOf_two l id sku n) ps h r T.ok er
  have ers : r = s := stock_ext hok (T2.shape.trans T.shape) (fun i k hi => by
    rw [T2.held i k (by omega), T.held i k hi, shape_id T.shape i, (sum_dem ps _ k).1, (sum_dem ps _ k).2]; omega)
  have hc : ∀ k : Int, countOf h k = countOf s k := fun k => by
    rw [countOf_sum T.ok, countOf_sum hok]
    have key : ∀ (a b : List S79), a.map shapeP = b.map shapeP → sumM (fun p => (stackOf p.f2 k).f1) a = sumM (fun p => (stackOf p.f2 k).f1) b := by
      intro a
      induction a with
      | nil => intro b hb; have : b = [] := by simpa using hb.symm
               subst this; rfl
      | cons x t ih =>
        intro b hb
        cases b with
        | nil => simp at hb
        | cons y t2 =>
          rw [List.map_cons, List.map_cons, List.cons.injEq] at hb
          have e2 : x.f2.map (fun x => (x.f0, x.f1)) = y.f2.map (fun x => (x.f0, x.f1)) := congrArg (fun x => x.2.2) hb.1
          show (stackOf x.f2 k).f1 + _ = (stackOf y.f2 k).f1 + _
          rw [ih t2 hb.2, (shape_hit e2 k).2.2]
    exact key h s T.shape
  refine ⟨by rw [er, ers], fun k => ⟨?_, each_free s0 k ps s h e⟩, fun k => ?_, fun q hq => ?_⟩
  · rw [freeOf_sum T.ok]
    have key : ∀ (a : List S79), (∀ p ∈ a, 0 ≤ av p k) → 0 ≤ sumM (fun p => av p k) a := by
      intro a
      induction a with
      | nil => intro _; exact Int.le_refl 0
      | cons x t ih =>
        intro hp
        have := hp x List.mem_cons_self
        have := ih (fun y hy => hp y (List.mem_cons_of_mem _ hy))
        show 0 ≤ av x k + sumM _ t
        omega
    refine key h (fun p hp => ?_)
    obtain ⟨j, hj, rfl⟩ := List.mem_iff_getElem.1 hp
    have pf := (stock_pods T.ok).2 j hj
    have b := stackOf_bounds pf.stacks k
    have e1 : podAtN h j = h[j] := by unfold podAtN; exact getD_at hj
    rw [e1] at b
    unfold av; omega
  · obtain ⟨t, et, ec⟩ := each_take s2 k ps h T.ok K2 hd
    exact ⟨t, et, by rw [ec, hc k]⟩
  · obtain ⟨b, a, _⟩ := K q hq
    exact ⟨a.n, b, a.hb, idx_id a.idx⟩

structure PickFacts (s : List S79) (want : List S48) (R : List S50 × Bool) : Prop where
 len : R.1.length ≤ 6000
 yes : R.2 = true → (∃ h : List S79, eachOf (opOf 1) s R.1 s = (h, true)) ∧ ∀ it ∈ want, same R.1 it.f0 = it.f1
 no : R.2 = false → R.1 = [] ∧ ∃ it ∈ want, freeOf s it.f0 < it.f1
structure Stand (s s' : List S79) (want left : List S48) (acc : List S50) : Prop where
 ok : stockOk s' = true
 lft : Left left
 held : eachOf (opOf 1) s acc s = (s', true)
 eq : left = want.map (fun it => (⟨it.f0, it.f1 - same acc it.f0⟩ : S48))
 len : (acc.length : Int) + sumL left ≤ 6000
theorem could_count (p : S79) : ∀ {l : List S48}, Left l → ((couldL p l).length : Int) ≤ couldN p l
 | [], _ => by simp [couldL, couldN]
 | it :: t, h => by
  have ih := could_count p h.tail
  unfold couldL couldN
  split
  ·simp only [List.length_cons]; omega
  ·exact ih
theorem sumL_dec (p : S79) : ∀ (l : List S48), sumL (l.map (dec p)) = sumL l - couldN p l
 | [] => by simp [sumL, couldN]
 | it :: t => by
  have ih := sumL_dec p t
  rw [List.map_cons]
  show (it.f1 - offOf p it) + sumL (t.map (dec p)) = it.f1 + sumL t - couldN p (it :: t)
  rw [ih, couldN]
  unfold offOf
  split <;> omega
theorem Stand.step {s s' s2 : List S79} {want left : List S48} {acc : List S50} (Z : Stand s s' want left acc) {p : S79} (ok2 : stockOk s2 = true) (g : eachOf (opOf 1) s (couldL p left) s' = (s2, true)) : Stand s s2 want (left.map (dec p)) (acc ++ couldL p left) := by
 have hc := could_count p Z.lft
 have hs := sumL_dec p left
 have h0 := Z.len
 refine ⟨ok2, Z.lft.dec _, by rw [eachOf_app _ _ _ _ _ _ Z.held]; exact g, ?_, by rw [List.length_append]; omega⟩
 have e1 : left.map (dec p) = left.map (fun it => (⟨it.f0, it.f1 - same (couldL p left) it.f0⟩ : S48)) := List.map_congr_left fun it hit => by
  show (⟨it.f0, it.f1 - offOf p it⟩ : S48) = _
  rw [same_off _ Z.lft it hit]
 rw [e1]
 have e2 : left.map (fun it => (⟨it.f0, it.f1 - same (couldL p left) it.f0⟩ : S48)) = (want.map (fun it => (⟨it.f0, it.f1 - same acc it.f0⟩ : S48))).map (fun it => (⟨it.f0, it.f1 - same (couldL p left) it.f0⟩ : S48)) := congrArg (List.map _) Z.eq
 rw [e2, List.map_map]
 refine List.map_congr_left fun it _ => ?_
 show (⟨it.f0, it.f1 - same acc it.f0 - same (couldL p left) it.f0⟩ : S48) = _
 rw [same_app, Int.sub_sub]
theorem Stand.done {s s' : List S79} {want left : List S48} {acc : List S50} (Z : Stand s s' want left acc) (c : sumL left = 0) : PickFacts s want (acc, true) := by
 refine ⟨by have := Z.len; show acc.length ≤ 6000; omega, fun _ => ⟨⟨s', Z.held⟩, fun it hit => ?_⟩, fun h => by cases h⟩
 have key : ∀ {l : List S48}, Left l → sumL l = 0 → ∀ x ∈ l, x.f1 = 0 := by
  intro l
  induction l with
  | nil => intro _ _ x hx; simp at hx
  | cons y t ih =>
   intro h hs x hx
   have hn := h.num y List.mem_cons_self
   have ht := sumL_facts h.tail
   have e : sumL (y :: t) = y.f1 + sumL t := rfl
   rcases List.mem_cons.1 hx with rfl | hx
   ·omega
   ·exact ih h.tail (by omega) x hx
 have := key Z.lft c ⟨it.f0, it.f1 - same acc it.f0⟩ (by rw [Z.eq]; exact List.mem_map.2 ⟨it, hit, rfl⟩)
 dsimp only at this
 show same acc it.f0 = it.f1
 omega
theorem Stand.fail {s s' : List S79} {want left : List S48} {acc : List S50} (Z : Stand s s' want left acc) (c : ¬ sumL left = 0) (hb : ∀ j : Nat, j < s'.length → couldN (podAtN s' j) left ≤ 0) : PickFacts s want ([], false) := by
 refine ⟨by simp, fun h => (by cases h), fun _ => ⟨rfl, ?_⟩⟩
 have hall : ∀ j : Nat, j < s'.length → couldN (podAtN s' j) left = 0 := fun j hj => by
  have := couldN_bounds (p := podAtN s' j) Z.lft
  have := hb j hj
  omega
 obtain ⟨x, hx, hx0⟩ : ∃ x ∈ left, 0 < x.f1 := by
  have hz : nz left ≠ [] := fun h => c ((sumL_facts Z.lft).2.2.2 h)
  obtain ⟨x, hx⟩ := List.exists_mem_of_ne_nil _ hz
  unfold nz at hx
  rw [List.mem_filter] at hx
  exact ⟨x, hx.1, by simpa using hx.2⟩
 have hav : ∀ p ∈ s', av p x.f0 ≤ 0 := fun p hp => by
  obtain ⟨j, hj, rfl⟩ := List.mem_iff_getElem.1 hp
  have h1 := (couldN_zero Z.lft).1 (hall j hj) x hx
  have e1 : podAtN s' j = s'[j] := by unfold podAtN; exact getD_at hj
  rw [e1] at h1
  unfold tak at h1
  split at h1 <;> omega
 have hf : freeOf s' x.f0 ≤ 0 := by
  rw [freeOf_sum Z.ok]
  have key : ∀ (a : List S79), (∀ p ∈ a, av p x.f0 ≤ 0) → sumM (fun p => av p x.f0) a ≤ 0 := by
   intro a
   induction a with
   | nil => intro _; exact Int.le_refl 0
   | cons y t ih =>
    intro hp
    have := hp y List.mem_cons_self
    have := ih (fun y hy => hp y (List.mem_cons_of_mem _ hy))
    show av y x.f0 + sumM _ t ≤ 0
    omega
  exact key s' hav
 rw [Z.eq] at hx
 obtain ⟨it, hit, rfl⟩ := List.mem_map.1 hx
 have he := each_free s it.f0 acc s s' Z.held
 dsimp only at hx0 hf
 exact ⟨it, hit, by omega⟩
theorem impl_best (Q : List S50 × Bool → Prop) (s' : List S79) (hok : stockOk s' = true) (left : List S48) (hl : Left left) (acc : List S50)
  (K : ∀ (M : Int) (L : List S50), (M = 0 ∧ L = [] ∨ ∃ j : Nat, j < s'.length ∧ L = couldL (podAtN s' j) left ∧ M = couldN (podAtN s' j) left ∧ 0 < M) → (∀ j : Nat, j < s'.length → couldN (podAtN s' j) left ≤ M) → ∃ R : List S50 × Bool, Ev (fun k => impl_Picks.l1 k acc (nz left) L M s' (s'.length : Int) s'.length s') R ∧ Q R) :
  ∀ (d i : Nat) (M : Int) (L : List S50), i + d = s'.length → (M = 0 ∧ L = [] ∨ ∃ j : Nat, j < i ∧ L = couldL (podAtN s' j) left ∧ M = couldN (podAtN s' j) left ∧ 0 < M) → (∀ j : Nat, j < i → couldN (podAtN s' j) left ≤ M) → ∃ R : List S50 × Bool, Ev (fun k => impl_Picks.l1 k acc (nz left) L M s' (s'.length : Int) i s') R ∧ Q R
 | 0, i, M, L, e, hb, hle => by
   obtain rfl : i = s'.length := by omega
   exact K M L hb hle
 | d + 1, i, M, L, e, hb, hle => by
   have hi : i < s'.length := by omega
   have h12 := (stock_pods hok).1
   have hpf := (stock_pods hok).2 i hi
   have hs := impl_could_f (podAtN s' i) (nz left) hl.nz hpf.stacks hpf.len
   have hz := could_nz (podAtN s' i) hl
   rw [hz.1, hz.2] at hs
   have hM : 0 ≤ M := by rcases hb with ⟨h, _⟩ | ⟨j, _, _, _, h⟩ <;> omega
   by_cases c : couldN (podAtN s' i) left > M
   ·obtain ⟨R, e1, e2⟩ := impl_best Q s' hok left hl acc K d (i + 1) (couldN (podAtN s' i) left) (couldL (podAtN s' i) left) (by omega) (.inr ⟨i, by omega, rfl, rfl, by omega⟩) (fun j hj => by
     by_cases h : j = i
     ·subst h; exact Int.le_refl _
     ·have := hle j (by omega); omega)
    refine ⟨R, Ev.unroll ?_, e2⟩
    simp only [impl_Picks.l1, rd_pod, wrap_sc (show i < 9223372036854775807 by omega)]
    exact Ev.ifp (by omega) (Ev.ifp (by omega) (Ev.ifp (by omega) (Ev.bind hs (Ev.ifp c e1))))
   ·obtain ⟨R, e1, e2⟩ := impl_best Q s' hok left hl acc K d (i + 1) M L (by omega) (by
     rcases hb with h | ⟨j, h1, h2⟩
     ·exact .inl h
     ·exact .inr ⟨j, by omega, h2⟩) (fun j hj => by
     by_cases h : j = i
     ·subst h; omega
     ·exact hle j (by omega))
    refine ⟨R, Ev.unroll ?_, e2⟩
    simp only [impl_Picks.l1, rd_pod, wrap_sc (show i < 9223372036854775807 by omega)]
    exact Ev.ifp (by omega) (Ev.ifp (by omega) (Ev.ifp (by omega) (Ev.bind hs (Ev.ifn c e1))))
theorem impl_rounds (s : List S79) (want : List S48) : ∀ (m : Nat) (s' : List S79) (left : List S48) (acc : List S50), sumL left = (m : Int) → Stand s s' want left acc →
  ∃ R : List S50 × Bool, Ev (fun k => impl_Picks.l0 k acc (nz left) s') R ∧ PickFacts s want R := by
 intro m
 induction m using Nat.strongRecOn with
 | _ m IH =>
 intro s' left acc hm Z
 have hsum := sumL_facts Z.lft
 have hZl := Z.len
 by_cases c : sumL left = 0
 ·refine ⟨(acc, true), Ev.unroll ?_, Z.done c⟩
  simp only [impl_Picks.l0, hsum.2.2.1 c]
  exact Ev.ifn (by simp) (Ev.now _)
 ·have hne : 0 < (nz left).length := by
   rcases Nat.eq_zero_or_pos (nz left).length with h | h
   ·exact absurd (hsum.2.2.2 (List.length_eq_zero_iff.1 h)) c
   ·exact h
  obtain ⟨R, e2, e3⟩ := impl_best (PickFacts s want) s' Z.ok left Z.lft acc (fun M L hb hle => by
   rcases hb with ⟨rfl, rfl⟩ | ⟨j, hj, rfl, rfl, hM⟩
   ·refine ⟨([], false), Ev.unroll ?_, Z.fail c hle⟩
    simp only [impl_Picks.l1]
    exact Ev.ifn (by omega) (Ev.ifp trivial (Ev.now _))
   ·have hcl := couldL_ok (podAtN s' j) Z.lft
    have hcl6 := hcl.len
    obtain ⟨s2, g1, g2, _⟩ := hold_all s' j left s' Z.ok (by omega) Z.lft
    obtain ⟨s3, g9, g92, _⟩ := hold_all s j left s' Z.ok (by omega) Z.lft
    have e32 : s3 = s2 := by
     have key : ∀ (ps : List S50) (a b out x y : List S79), eachOf (opOf 1) a ps out = (x, true) → eachOf (opOf 1) b ps out = (y, true) → x = y := by
      intro ps
      induction ps with
      | nil => intro a b out x y h1 h2; unfold eachOf at h1 h2; rw [← (Prod.mk.inj h1).1, ← (Prod.mk.inj h2).1]
      | cons p t ih =>
       intro a b out x y h1 h2
       rw [eachOf] at h1 h2
       split at h1
       ·rename_i h0; rw [if_pos h0] at h2; exact ih a b _ x y h1 h2
       ·cases h1
     exact key _ _ _ _ _ _ g9 g1
    subst e32
    have Z2 := Z.step g92 g9
    have hd := sumL_dec (podAtN s' j) left
    have h0 := (sumL_facts Z2.lft).1
    obtain ⟨R, r2, r3⟩ := IH (sumL (left.map (dec (podAtN s' j)))).toNat (by omega) s3 (left.map (dec (podAtN s' j))) (acc ++ couldL (podAtN s' j) left) (by omega) Z2
    have hbig : BigS s' := ⟨(pods_len Z.ok).1, (pods_len Z.ok).2⟩
    have hH := impl_HoldAll_f s' hbig (couldL (podAtN s' j) left) (by omega)
    rw [g1] at hH
    have hL := impl_less_f (nz left) Z.lft.nz (couldL (podAtN s' j) left) hcl
    rw [less_dec (podAtN s' j) Z.lft] at hL
    refine ⟨R, Ev.unroll ?_, r3⟩
    simp only [impl_Picks.l1]
    exact Ev.ifn (by omega) (Ev.ifn (by omega) (Ev.ifp (by omega) (Ev.bind hH (Ev.bind hL r2))))) s'.length 0 0 [] (by omega) (.inl ⟨rfl, rfl⟩) (fun j hj => by omega)
  refine ⟨R, Ev.unroll ?_, e3⟩
  simp only [impl_Picks.l0]
  exact Ev.ifp (by omega) e2
theorem impl_Picks_facts (s : List S79) (hn : s.length ≤ 4194304) (hx : ∀ x ∈ s, x.f2.length ≤ 4194304) (l : List S48) (hl : l.length ≤ 1048576) :
  ∃ R : List S50 × Bool, Ev (fun k => impl_Picks.f k s l) R ∧ (if stockOk s = true ∧ itemsOk l = true then PickFacts s l R else R = ([], false)) := by
 have s2 := impl_StockOk_f s hn hx
 have i2 := impl_ItemsOk_f l hl
 have bad2 : Ev (fun k => impl_Picks.j0 k l true s) (([], false) : List S50 × Bool) := Ev.unroll (by
  simp only [impl_Picks.j0]; exact Ev.ifp trivial (Ev.now _))
 unfold impl_Picks.f
 by_cases hs : stockOk s = true
 ·by_cases hi : itemsOk l = true
  ·obtain ⟨hL, hz⟩ := items_left hi
   have h6 := hL.len
   have hsum := sumL_facts hL
   obtain ⟨R, e2, e3⟩ := impl_rounds s l (sumL l).toNat s l [] (by omega) ⟨hs, hL, rfl, by
    have : l.map (fun it => (⟨it.f0, it.f1 - same [] it.f0⟩ : S48)) = l.map id := List.map_congr_left fun it _ => by
     show (⟨it.f0, it.f1 - 0⟩ : S48) = it
     rw [Int.sub_zero]
    rw [this, List.map_id], by simp only [List.length_nil]; omega⟩
   rw [hz] at e2
   rw [hi] at i2
   refine ⟨R, Ev.bind s2 (Ev.ifp hs (Ev.bind i2 (Ev.unroll ?_))), by rw [if_pos ⟨hs, hi⟩]; exact e3⟩
   simp only [impl_Picks.j0, impl_copyItems.f, List.nil_append, List.length_nil, if_pos (show 0 + l.length < 8796093022208 by omega), some_bind]
   exact Ev.ifn (by simp) (Ev.bind (impl_copyStock_f s hn hx) e2)
  ·have hi2 : itemsOk l = false := by simpa using hi
   rw [hi2] at i2
   exact ⟨([], false), Ev.bind s2 (Ev.ifp hs (Ev.bind i2 bad2)), by rw [if_neg (fun h => hi h.2)]⟩
 ·exact ⟨([], false), Ev.bind s2 (Ev.ifn hs bad2), by rw [if_neg (fun h => hs h.1)]⟩

theorem impl_eachRelease_l0 (s : List S79) (hs : BigS s) (p : List S50) (hp : p.length ≤ 1048576) : ∀ (d i : Nat) (out : List S79), i + d = p.length → BigS out → Ev (fun k => impl_eachRelease.l0 k s p i out) (eachOf (opOf 2) s (p.drop i) out)
 | 0, i, out, e, h => Ev.unroll (by
   simp only [impl_eachRelease.l0]
   rw [drop_end (by omega)]
   exact Ev.ifn (by omega) (Ev.now _))
 | d + 1, i, out, e, h => by
   have hi : i < p.length := by omega
   have er : rd_T50 p i = p[i] := rd_struct_at hi
   have ih := impl_eachRelease_l0 s hs p hp d (i + 1) (opOf 2 out p[i].f0 p[i].f1 p[i].f2).1 (by omega) (opOf_big 2 out _ _ _ h)
   refine Ev.unroll ?_
   simp only [impl_eachRelease.l0, er, wrap_sc (show i < 9223372036854775807 by omega)]
   rw [drop_cons hi, eachOf]
   have e1 : opOf 2 out p[i].f0 p[i].f1 p[i].f2 = heldOf out p[i].f0 p[i].f1 p[i].f2 (-p[i].f2) := by unfold opOf; rw [if_neg (by decide), if_pos rfl]
   rw [e1] at ih ⊢
   refine Ev.ifp (by omega) (Ev.ifp (by omega) (Ev.bind (impl_Release_f out _ _ _ h.1 h.2) ?_))
   by_cases h0 : (heldOf out p[i].f0 p[i].f1 p[i].f2 (-p[i].f2)).2 = 0
   ·rw [if_pos h0]; exact Ev.ifp h0 ih
   ·rw [if_neg h0]; exact Ev.ifn h0 (Ev.bind (impl_copyStock_f s hs.1 hs.2) (Ev.now _))
theorem impl_ReleaseAll_f (s : List S79) (hs : BigS s) (p : List S50) (hp : p.length ≤ 1048576) : Ev (fun k => impl_ReleaseAll.f k s p) (eachOf (opOf 2) s p s) := by
 unfold impl_ReleaseAll.f impl_eachRelease.f
 exact Ev.bind (impl_copyStock_f s hs.1 hs.2) (impl_eachRelease_l0 s hs p hp p.length 0 s (by omega) hs)
theorem impl_eachTakeOut_l0 (s : List S79) (hs : BigS s) (p : List S50) (hp : p.length ≤ 1048576) : ∀ (d i : Nat) (out : List S79), i + d = p.length → BigS out → Ev (fun k => impl_eachTakeOut.l0 k s p i out) (eachOf (opOf 3) s (p.drop i) out)
 | 0, i, out, e, h => Ev.unroll (by
   simp only [impl_eachTakeOut.l0]
   rw [drop_end (by omega)]
   exact Ev.ifn (by omega) (Ev.now _))
 | d + 1, i, out, e, h => by
   have hi : i < p.length := by omega
   have er : rd_T50 p i = p[i] := rd_struct_at hi
   have ih := impl_eachTakeOut_l0 s hs p hp d (i + 1) (opOf 3 out p[i].f0 p[i].f1 p[i].f2).1 (by omega) (opOf_big 3 out _ _ _ h)
   refine Ev.unroll ?_
   simp only [impl_eachTakeOut.l0, er, wrap_sc (show i < 9223372036854775807 by omega)]
   rw [drop_cons hi, eachOf]
   have e1 : opOf 3 out p[i].f0 p[i].f1 p[i].f2 = takeOf out p[i].f0 p[i].f1 p[i].f2 := by unfold opOf; rw [if_neg (by decide), if_neg (by decide)]
   rw [e1] at ih ⊢
   refine Ev.ifp (by omega) (Ev.ifp (by omega) (Ev.bind (impl_TakeOut_f out _ _ _ h.1 h.2) ?_))
   by_cases h0 : (takeOf out p[i].f0 p[i].f1 p[i].f2).2 = 0
   ·rw [if_pos h0]; exact Ev.ifp h0 ih
   ·rw [if_neg h0]; exact Ev.ifn h0 (Ev.bind (impl_copyStock_f s hs.1 hs.2) (Ev.now _))
theorem impl_TakeAll_f (s : List S79) (hs : BigS s) (p : List S50) (hp : p.length ≤ 1048576) : Ev (fun k => impl_TakeAll.f k s p) (eachOf (opOf 3) s p s) := by
 unfold impl_TakeAll.f impl_eachTakeOut.f
 exact Ev.bind (impl_copyStock_f s hs.1 hs.2) (impl_eachTakeOut_l0 s hs p hp p.length 0 s (by omega) hs)
theorem DrawPicks_ok (b : List Int) (hb : b.length ≤ 1048576) : ∃ (l : List S79) (it : List S48), Ev (fun k => spec_DrawPicks.f k b) (l, it) ∧ SmS l ∧ it.length ≤ 20 := by
 unfold spec_DrawPicks.f
 obtain ⟨s, e0⟩ := l1New_ok b hb
 obtain ⟨l, i1, s1, e1, hi1, hl⟩ := l5DrawAny_ok b hb 0 s (by omega)
 obtain ⟨it, i2, s2, e2, hi2, h2⟩ := l6ItemsAny_ok b hb i1 s1 hi1
 exact ⟨l, it, Ev.bind e0 (Ev.bind e1 (Ev.bind e2 (Ev.now _))), hl, h2⟩
theorem same_bounds : ∀ {ps : List S50}, (∀ q ∈ ps, 1 ≤ q.f2 ∧ q.f2 ≤ 1000) → ∀ k : Int, 0 ≤ same ps k ∧ same ps k ≤ 1000 * (ps.length : Int)
 | [], _, k => by simp [same]
 | q :: t, h, k => by
  have ih := same_bounds (fun x hx => h x (List.mem_cons_of_mem _ hx)) k
  have := h q List.mem_cons_self
  unfold same
  simp only [List.length_cons]
  split <;> omega
theorem same_take {ps : List S50} {i : Nat} (hi : i < ps.length) (k : Int) : same (ps.take (i + 1)) k = same (ps.take i) k + if ps[i].f1 = k then ps[i].f2 else 0 := by
 rw [List.take_succ_eq_append_getElem hi, same_app]
 show _ + ((if ps[i].f1 = k then ps[i].f2 else 0) + 0) = _
 omega
def enough (s : List S79) (want : List S48) : Bool := want.all (fun it => decide (freeOf s it.f0 ≥ it.f1))
theorem picks_l0 (s : List S79) (B : BigS s) (want : List S48) (hw : want.length ≤ 20) (ps : List S50) (ok : Bool) (heq : ok = enough s want) (h1 : ok = true → Ev (fun k => laws_FnPicks.l1 k want ps 0 s) true) (h0 : ok = false → ps.length = 0) :
  ∀ (d i : Nat) (x : Bool), i + d = want.length → x = enough s (want.take i) → Ev (fun k => laws_FnPicks.l0 k want ps ok x i s) true := by
 intro d
 induction d with
 | zero =>
  intro i x e hx
  rw [List.take_of_length_le (by omega)] at hx
  refine Ev.unroll ?_
  simp only [laws_FnPicks.l0]
  refine Ev.ifn (by omega) (Ev.ifn (by rw [hx, heq]; simp) ?_)
  by_cases c : ok = true
  ·exact Ev.ifp c (h1 c)
  ·exact Ev.ifn c (Ev.fin (by have := h0 (by simpa using c); simp [this]))
 | succ d ih =>
  intro i x e hx
  have hi : i < want.length := by omega
  have er : rd_T48 want i = want[i] := rd_struct_at hi
  have es : enough s (want.take (i + 1)) = (enough s (want.take i) && decide (freeOf s want[i].f0 ≥ want[i].f1)) := by
   unfold enough
   rw [List.take_succ_eq_append_getElem hi, List.all_append]
   simp
  refine Ev.unroll ?_
  simp only [laws_FnPicks.l0, er, wrap_sc (show i < 9223372036854775807 by omega)]
  refine Ev.ifp (by omega) ?_
  by_cases c : x = true
  ·refine Ev.ifp c (Ev.ifp (by omega) (Ev.bind (impl_Free_f s want[i].f0 B.1 B.2) (ih (i + 1) _ (by omega) ?_)))
   rw [es, ← hx, c, Bool.true_and]
  ·refine Ev.ifn c (ih (i + 1) false (by omega) ?_)
   rw [es, ← hx, show x = false by simpa using c, Bool.false_and]
theorem picks_l2 (s : List S79) (want : List S48) (hw : want.length ≤ 20) (ps : List S50) (hp : ps.length ≤ 6000) (hq : ∀ q ∈ ps, 1 ≤ q.f2 ∧ q.f2 ≤ 1000) (j : Nat) (hj : j < want.length) (hs : same ps want[j].f0 = want[j].f1)
  (K : Ev (fun k => laws_FnPicks.l1 k want ps ((j + 1 : Nat) : Int) s) true) : ∀ (d i : Nat) (n : Int), i + d = ps.length → n = same (ps.take i) want[j].f0 → Ev (fun k => laws_FnPicks.l2 k want ps j n i s) true := by
 have er : rd_T48 want j = want[j] := rd_struct_at hj
 intro d
 induction d with
 | zero =>
  intro i n e hn
  rw [List.take_of_length_le (by omega)] at hn
  refine Ev.unroll ?_
  simp only [laws_FnPicks.l2, er, wrap_sc (show j < 9223372036854775807 by omega)]
  exact Ev.ifn (by omega) (Ev.ifp (by omega) (Ev.ifp (by omega) (Ev.ifp (by omega) K)))
 | succ d ih =>
  intro i n e hn
  have hi : i < ps.length := by omega
  have ep : rd_T50 ps i = ps[i] := rd_struct_at hi
  have hb := same_bounds (ps := ps.take i) (fun q h => hq q (List.mem_of_mem_take h)) want[j].f0
  have hbi := hq ps[i] (List.getElem_mem hi)
  have hl : (ps.take i).length ≤ 6000 := by rw [List.length_take]; omega
  have hst := same_take hi want[j].f0
  refine Ev.unroll ?_
  simp only [laws_FnPicks.l2, er, ep, wrap_sc (show i < 9223372036854775807 by omega)]
  refine Ev.ifp (by omega) (Ev.ifp (by omega) (Ev.ifp (by omega) (Ev.ifp (by omega) ?_)))
  by_cases c : ps[i].f1 = want[j].f0
  ·rw [if_pos c] at hst
   rw [wrap_id (x := n + ps[i].f2) (by omega) (by omega)]
   exact Ev.ifp c (ih (i + 1) _ (by omega) (by omega))
  ·rw [if_neg c] at hst
   exact Ev.ifn c (ih (i + 1) _ (by omega) (by omega))
theorem FnPicks : laws_FnPicks.Pure := by
 intro b hm hb2 hby
 refine Ev.rounds ?_
 unfold laws_FnPicks.f
 simp only [laws_big.f, some_bind, decide_eq_true_eq]
 refine ev_ite' (fun _ => Ev.now _) (fun hbig => ?_)
 obtain ⟨s, want, e, hs, hw⟩ := DrawPicks_ok b (by omega)
 have B := hs.big
 obtain ⟨R, eI, hf⟩ := impl_Picks_facts s B.1 B.2 want (by omega)
 have hS := spec_StockOk_f s B.1 B.2
 have hW := spec_ItemsOk_f want (by omega)
 refine Ev.bind e (Ev.bind eI (Ev.bind hS ?_))
 have bad : ¬ (stockOk s = true ∧ itemsOk want = true) → Ev (fun k => laws_FnPicks.j0 k want R.1 R.2 true s) true := fun h => by
  rw [if_neg h] at hf
  subst hf
  refine Ev.unroll ?_
  simp only [laws_FnPicks.j0]
  exact Ev.ifp trivial (Ev.ifn (by decide) (Ev.fin rfl))
 by_cases hok : stockOk s = true
 ·refine Ev.ifp hok (Ev.bind hW ?_)
  by_cases hi : itemsOk want = true
  ·rw [hi, Bool.not_true]
   rw [if_pos ⟨hok, hi⟩] at hf
   refine Ev.unroll ?_
   simp only [laws_FnPicks.j0]
   refine Ev.ifn (by decide) ?_
   have hR := hf.len
   have heq : R.2 = enough s want := by
    cases h2 : R.2 with
    | true =>
     obtain ⟨⟨h, eh⟩, hsum⟩ := hf.yes h2
     obtain ⟨_, hfr, _, _⟩ := all_back hok s s s eh
     symm
     unfold enough
     rw [List.all_eq_true]
     intro it hit
     have := hfr it.f0
     have := hsum it hit
     rw [decide_eq_true_eq]; omega
    | false =>
     obtain ⟨_, it, hit, hlt⟩ := hf.no h2
     symm
     unfold enough
     rw [List.all_eq_false]
     exact ⟨it, hit, by rw [decide_eq_true_eq]; omega⟩
   refine picks_l0 s B want hw R.1 R.2 heq (fun h2 => ?_) (fun h2 => by rw [(hf.no h2).1]; rfl) want.length 0 true (by omega) (by simp [enough])
   obtain ⟨⟨h, eh⟩, hsum⟩ := hf.yes h2
   obtain ⟨hrel, hfr, htk, hids⟩ := all_back hok s h h eh
   obtain ⟨t, et, _⟩ := htk 0
   have htc : ∀ k : Int, countOf t k = countOf s k - same R.1 k := fun k => by
    obtain ⟨t2, et2, ec2⟩ := htk k
    rw [et] at et2
    rw [(Prod.mk.inj et2).1]; exact ec2
   have hq : ∀ q ∈ R.1, 1 ≤ q.f2 ∧ q.f2 ≤ 1000 := fun q hq => (hids q hq).1
   have hh : BigS h := by have := eachOf_big (opOf_big 1) B R.1 s B; rw [eh] at this; exact this
   have ht : BigS t := by have := eachOf_big (opOf_big 3) hh R.1 h hh; rw [et] at this; exact this
   have hH := impl_HoldAll_f s B R.1 (by omega)
   rw [eh] at hH
   have hRe := impl_ReleaseAll_f h hh R.1 (by omega)
   rw [hrel] at hRe
   have hT := impl_TakeAll_f h hh R.1 (by omega)
   rw [et] at hT
   have hI := impl_ItemsOk_f want (by omega)
   rw [hi] at hI
   have hpods : (podsOf R.1).length ≤ s.length := by
    have := nodup_le (podsOf R.1) (s.map (fun p => p.f0)) (pods_nodup R.1 [] (by simp)) (fun x hx => by
     rcases (pods_mem R.1 [] x).1 hx with h | ⟨q, hq, rfl⟩
     ·simp at h
     ·obtain ⟨_, j, hj, ej⟩ := hids q hq
      refine List.mem_map.2 ⟨s[j], List.getElem_mem hj, ?_⟩
      unfold podAtN at ej
      rw [getD_at hj] at ej
      exact ej)
    rw [List.length_map] at this
    exact this
   have l3 : ∀ (d i : Nat), i + d = want.length → Ev (fun k => laws_FnPicks.l3 k want R.1 true true true i s s t) true := by
    intro d
    induction d with
    | zero =>
     intro i e
     refine Ev.unroll ?_
     simp only [laws_FnPicks.l3]
     exact Ev.ifn (by omega) (Ev.ifp trivial (Ev.ifp trivial (Ev.ifp trivial (Ev.bind (sameStock_f s B) (Ev.ifp rfl (Ev.bind (impl_PodsOf_f R.1 (by omega)) (Ev.ifp (by omega) (Ev.bind hI (Ev.now _)))))))))
    | succ d ih =>
     intro i e
     have hiw : i < want.length := by omega
     have er : rd_T48 want i = want[i] := rd_struct_at hiw
     have b1 := stock_bounds hok want[i].f0
     have hm := hsum want[i] (List.getElem_mem hiw)
     have hb := same_bounds hq want[i].f0
     have hc := htc want[i].f0
     refine Ev.unroll ?_
     simp only [laws_FnPicks.l3, er, wrap_sc (show i < 9223372036854775807 by omega)]
     exact Ev.ifp (by omega) (Ev.ifp (by omega) (Ev.bind (impl_Count_f t want[i].f0 ht.1 ht.2) (Ev.bind (impl_Count_f s want[i].f0 B.1 B.2) (Ev.ifp (by rw [wrap_id (by omega) (by omega)]; omega) (ih (i + 1) (by omega))))))
   have l1 : ∀ (d i : Nat), i + d = want.length → Ev (fun k => laws_FnPicks.l1 k want R.1 i s) true := by
    intro d
    induction d with
    | zero =>
     intro i e
     refine Ev.unroll ?_
     simp only [laws_FnPicks.l1]
     exact Ev.ifn (by omega) (Ev.bind hH (Ev.bind hRe (Ev.bind hT (l3 want.length 0 (by omega)))))
    | succ d ih =>
     intro i e
     refine Ev.unroll ?_
     simp only [laws_FnPicks.l1]
     exact Ev.ifp (by omega) (picks_l2 s want hw R.1 hR hq i (by omega) (hsum _ (List.getElem_mem _)) (ih (i + 1) (by omega)) R.1.length 0 0 (by omega) (by simp [same]))
   exact l1 want.length 0 (by omega)
  ·rw [show itemsOk want = false by simpa using hi, Bool.not_false]
   exact bad (fun h => hi h.2)
 ·exact Ev.ifn hok (bad (fun h => hok h.1))

end Go.Proofs.Yteajnkondkfmgaa.Pure
