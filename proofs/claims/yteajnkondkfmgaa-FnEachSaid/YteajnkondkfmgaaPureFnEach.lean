/- Proved here: the law FnEach, over numbers and lists: for all arguments it returns true; no condition. -/
import Derived.Test.YteajnkondkfmgaaPFnEachx20
namespace Go.Proofs.Yteajnkondkfmgaa.Pure
open Go.RowKit Go.Proofs.Yteajnkondkfmgaa.PFnEach Go.Proofs.YteajnkondkfmgaaW.PrintWords Go.Proofs.YteajnkondkfmgaaW.PrintLast
set_option linter.unusedVariables false
set_option linter.unusedSimpArgs false

theorem Ev.unroll {α : Type} {g : Nat → Option α} {r : α} (h : Ev (fun k => g (k + 1)) r) : Ev g r := Ev.step (fun _ => rfl) h
theorem Ev.fin {α : Type} {r s : α} (h : r = s) : Ev (fun _ => some r) s := by rw [h]; exact Ev.now _
theorem wrap_id {x : Int} (h0 : -9223372036854775808 ≤ x) (h1 : x ≤ 9223372036854775807) : wrap64 x = x := by unfold wrap64; omega
abbrev BIG : Nat := 4611686018427387904
theorem wrap_succ {i n : Nat} (h : i < n) (hn : n ≤ BIG) : wrap64 ((i : Int) + 1) = ((i + 1 : Nat) : Int) := by unfold wrap64; unfold BIG at hn; omega
theorem wrap_pred {i n : Nat} (h : i < n) (h0 : 0 < i) (hn : n ≤ BIG) : wrap64 ((i : Int) - 1) = ((i - 1 : Nat) : Int) := by unfold wrap64; unfold BIG at hn; omega
theorem rd_nat {xs : List Int} {i : Nat} (h : i < xs.length) : rd xs (i : Int) = xs[i] := by unfold rd; simp [List.getD, h]
theorem drop_cons {α : Type} {xs : List α} {i : Nat} (h : i < xs.length) : xs.drop i = xs[i] :: xs.drop (i + 1) := List.drop_eq_getElem_cons h
theorem drop_end {α : Type} {xs : List α} {i : Nat} (h : xs.length ≤ i) : xs.drop i = [] := List.drop_of_length_le h
theorem some_bind {α β : Type} (a : α) (f : α → Option β) : (some a).bind f = f a := rfl
theorem getD_at {α : Type} {xs : List α} {d : α} {i : Nat} (h : i < xs.length) : xs.getD i d = xs[i] := by simp [List.getD, h]
def allFrom (n i : Nat) (p : Nat → Bool) : Bool := (List.range' i (n - i)).all p
theorem allFrom_end {n i : Nat} {p : Nat → Bool} (h : n ≤ i) : allFrom n i p = true := by
 unfold allFrom
 rw [show n - i = 0 by omega]; rfl
theorem allFrom_step {n i : Nat} {p : Nat → Bool} (h : i < n) : allFrom n i p = (p i && allFrom n (i + 1) p) := by
 unfold allFrom
 rw [show n - i = (n - (i + 1)) + 1 by omega, List.range'_succ, List.all_cons]
theorem allFrom_no {n i : Nat} {p : Nat → Bool} (h : i < n) (hp : p i = false) : allFrom n i p = false := by rw [allFrom_step h, hp, Bool.false_and]
theorem allFrom_yes {n i : Nat} {p : Nat → Bool} (h : i < n) (hp : p i = true) : allFrom n i p = allFrom n (i + 1) p := by rw [allFrom_step h, hp, Bool.true_and]
theorem allFrom_iff {n i : Nat} {p : Nat → Bool} : allFrom n i p = true ↔ ∀ j, i ≤ j → j < n → p j = true := by
 unfold allFrom
 rw [List.all_eq_true]
 constructor
 ·intro h j h1 h2
  exact h j (by rw [List.mem_range'_1]; omega)
 ·intro h j hj
  rw [List.mem_range'_1] at hj
  exact h j hj.1 (by omega)
theorem wrap_sc {i : Nat} (h : i < 9223372036854775807) : wrap64 ((i : Int) + 1) = ((i + 1 : Nat) : Int) := by unfold wrap64; omega
theorem rd_nat' {xs : List Int} {i : Nat} : rd xs (i : Int) = xs.getD i 0 := by unfold rd; rw [Int.toNat_natCast]
theorem getD_zero' {α : Type} {xs : List α} {d : α} : xs.getD (0 : Int).toNat d = xs.getD 0 d := rfl
theorem Ev.ifp {α : Type} {c : Prop} [Decidable c] {g h : Nat → Option α} {r : α} (hc : c) (e : Ev g r) : Ev (fun k => if c then g k else h k) r := by simp only [if_pos hc]; exact e
theorem Ev.ifn {α : Type} {c : Prop} [Decidable c] {g h : Nat → Option α} {r : α} (hc : ¬ c) (e : Ev h r) : Ev (fun k => if c then g k else h k) r := by simp only [if_neg hc]; exact e
theorem ev_ite' {α : Type} {c : Prop} [Decidable c] {g h : Nat → Option α} {r : α} (h1 : c → Ev g r) (h2 : ¬ c → Ev h r) : Ev (fun k => if c then g k else h k) r := by
 by_cases hc : c
 ·simp only [if_pos hc]; exact h1 hc
 ·simp only [if_neg hc]; exact h2 hc

theorem bits_and_small (x : Int) {m : Nat} (hm : m < 256) : 0 ≤ Go.bits .and .i64 x (m : Int) ∧ Go.bits .and .i64 x (m : Int) ≤ (m : Int) := by
 unfold Go.bits
 show 0 ≤ IntKind.i64.wrap ((BitVec.ofInt 64 x &&& BitVec.ofInt 64 (m : Int)).toNat : Int) ∧ IntKind.i64.wrap ((BitVec.ofInt 64 x &&& BitVec.ofInt 64 (m : Int)).toNat : Int) ≤ (m : Int)
 rw [BitVec.toNat_and, BitVec.ofInt_natCast, BitVec.toNat_ofNat, Nat.mod_eq_of_lt (show m < 2 ^ 64 by omega)]
 have h : (BitVec.ofInt 64 x).toNat &&& m ≤ m := Nat.and_le_right
 rw [i64_w, wrap_id (by omega) (by omega)]
 omega
theorem l1Byte_ok (b : List Int) (i h : Int) (hi : 0 ≤ i) (hb : b.length ≤ 1048576) : ∃ x i' h' : Int, spec_l1Byte.f b i h = some (x, i', h') ∧ 0 ≤ x ∧ x ≤ 255 ∧ 0 ≤ i' := by
 unfold spec_l1Byte.f
 by_cases h1 : i < (b.length : Int)
 ·rw [if_pos h1, if_pos hi, wrap_id (x := i + 1) (by omega) (by omega)]
  have := bits_and_small (m := 255) (wrap64 (Go.bits .and .i64 (Go.bits .xor .i64 (wrap64 (wrap64 (h * 6364136223846793005) + 1442695040888963407) / 8589934592) (wrap64 (wrap64 (h * 6364136223846793005) + 1442695040888963407) / 140737488355328)) 255 + wrap64 (rd b i))) (by omega)
  exact ⟨_, _, _, rfl, this.1, this.2, by omega⟩
 ·rw [if_neg h1]
  have := bits_and_small (m := 255) (Go.bits .xor .i64 (wrap64 (wrap64 (h * 6364136223846793005) + 1442695040888963407) / 8589934592) (wrap64 (wrap64 (h * 6364136223846793005) + 1442695040888963407) / 140737488355328)) (by omega)
  exact ⟨_, _, _, rfl, this.1, this.2, by omega⟩
theorem l1Below_ok (b : List Int) (i h n : Int) (hi : 0 ≤ i) (hb : b.length ≤ 1048576) : ∃ x i' h' : Int, spec_l1Below.f b i h n = some (x, i', h') ∧ 0 ≤ i' ∧ 0 ≤ x ∧ (0 < n → x < n) ∧ (n ≤ 0 → x = 0) := by
 unfold spec_l1Below.f
 by_cases h1 : n ≤ 0
 ·rw [if_pos h1]
  exact ⟨_, _, _, rfl, hi, by omega, by omega, fun _ => rfl⟩
 ·rw [if_neg h1]
  obtain ⟨x, i1, s1, e1, x0, x1, hi1⟩ := l1Byte_ok b i h hi hb
  rw [e1]
  simp only [some_bind]
  by_cases h2 : n ≤ 256
  ·rw [if_pos h2, if_neg (by omega)]
   refine ⟨_, _, _, rfl, hi1, ?_, fun _ => ?_, fun h => by omega⟩
   ·rw [Int.tmod_eq_emod_of_nonneg x0]; exact Int.emod_nonneg _ (by omega)
   ·rw [Int.tmod_eq_emod_of_nonneg x0]; exact Int.emod_lt_of_pos _ (by omega)
  ·rw [if_neg h2]
   obtain ⟨y, i2, s2, e2, y0, y1, hi2⟩ := l1Byte_ok b i1 s1 hi1 hb
   rw [e2]
   simp only [some_bind]
   obtain ⟨z, i3, s3, e3, z0, z1, hi3⟩ := l1Byte_ok b i2 s2 hi2 hb
   rw [e3]
   simp only [some_bind]
   rw [if_neg (by omega), wrap_id (x := x * 65536) (by omega) (by omega), wrap_id (x := y * 256) (by omega) (by omega), wrap_id (x := x * 65536 + y * 256) (by omega) (by omega), wrap_id (x := x * 65536 + y * 256 + z) (by omega) (by omega)]
   refine ⟨_, _, _, rfl, hi3, ?_, fun _ => ?_, fun h => by omega⟩
   ·rw [Int.tmod_eq_emod_of_nonneg (by omega)]; exact Int.emod_nonneg _ (by omega)
   ·rw [Int.tmod_eq_emod_of_nonneg (by omega)]; exact Int.emod_lt_of_pos _ (by omega)
theorem l1Once_ok (b : List Int) (i h n : Int) (hi : 0 ≤ i) (hb : b.length ≤ 1048576) : ∃ (x : Bool) (i' h' : Int), spec_l1Once.f b i h n = some (x, i', h') ∧ 0 ≤ i' := by
 obtain ⟨x, i1, s1, e1, hi1, _⟩ := l1Below_ok b i h n hi hb
 unfold spec_l1Once.f
 rw [e1]
 exact ⟨_, _, _, rfl, hi1⟩
theorem l1Int_ok (b : List Int) (i h : Int) (l : List Int) (hi : 0 ≤ i) (hb : b.length ≤ 1048576) (hl : 0 < l.length) (hl2 : l.length ≤ 1048576) : ∃ x i' h' : Int, spec_l1Int.f b i h l = some (x, i', h') ∧ 0 ≤ i' ∧ x ∈ l := by
 obtain ⟨x, i1, s1, e1, hi1, x0, x1, _⟩ := l1Below_ok b i h l.length hi hb
 have x2 := x1 (by omega)
 unfold spec_l1Int.f
 rw [e1]
 simp only [some_bind]
 rw [if_pos x0, if_pos x2]
 refine ⟨_, _, _, rfl, hi1, ?_⟩
 unfold rd
 rw [getD_at (by omega)]
 exact List.getElem_mem _
theorem l1New_ok (b : List Int) (hb : b.length ≤ 1048576) : ∃ h : Int, Ev (fun k => spec_l1New.f k b) (b, 0, h) := by
 have key : ∀ (d i : Nat) (h : Int), i + d = b.length → ∃ h' : Int, Ev (fun k => spec_l1New.l0 k b h i) (b, 0, h') := by
  intro d
  induction d with
  | zero =>
   intro i h e
   exact ⟨h, Ev.unroll (by simp only [spec_l1New.l0]; exact Ev.ifn (by omega) (Ev.now _))⟩
  | succ d ih =>
   intro i h e
   by_cases h4 : (i : Int) < 4000
   ·obtain ⟨h', hh⟩ := ih (i + 1) (Go.bits .and .i64 (wrap64 (wrap64 (wrap64 (h * 137) + wrap64 (rd b i)) + 11)) 1073741823) (by omega)
    refine ⟨h', Ev.unroll ?_⟩
    simp only [spec_l1New.l0]
    refine Ev.ifp (by omega) (Ev.ifp h4 (Ev.ifp (by omega) ?_))
    rw [wrap_sc (by omega)]
    exact hh
   ·exact ⟨h, Ev.unroll (by simp only [spec_l1New.l0]; exact Ev.ifp (by omega) (Ev.ifn h4 (Ev.now _)))⟩
 exact key b.length 0 _ (by omega)

theorem rd_struct_at {α : Type} {xs : List α} {d : α} {i : Nat} (h : i < xs.length) : xs.getD (i : Int).toNat d = xs[i] := by rw [Int.toNat_natCast]; exact getD_at h
def inB (a b c : Int) : Bool := decide (b ≤ a ∧ a ≤ c)
theorem inB_iff {a b c : Int} : inB a b c = true ↔ b ≤ a ∧ a ≤ c := by unfold inB; exact decide_eq_true_iff
theorem impl_in_f (a b c : Int) : impl_in.f a b c = some (inB a b c) := by
 unfold impl_in.f inB
 by_cases h : b ≤ a <;> by_cases h2 : a ≤ c <;> simp [h, h2]
theorem spec_l1In_f (a b c : Int) : spec_l1In.f a b c = some (inB a b c) := by
 unfold spec_l1In.f inB
 by_cases h : b ≤ a <;> by_cases h2 : a ≤ c <;> simp [h, h2]

def stackAt (l : List S72) (j : Nat) : S72 := l.getD j z72
def podAtN (l : List S79) (j : Nat) : S79 := l.getD j z79
def stackOk (l : List S72) (j : Nat) : Bool := inB (stackAt l j).f0 1 50 && (inB (stackAt l j).f1 1 1000 && (inB (stackAt l j).f2 0 (stackAt l j).f1 && (decide (j = 0) || decide ((stackAt l (j - 1)).f0 < (stackAt l j).f0))))
def stacksOk (l : List S72) : Bool := allFrom l.length 0 (stackOk l)
def podOk (p : S79) : Bool := inB p.f0 1 999 && (inB p.f1 0 99 && (decide (p.f2.length ≤ 8) && stacksOk p.f2))
def homesOk (l : List S79) (i : Nat) : Nat → Bool := fun k => !decide ((podAtN l k).f1 = (podAtN l i).f1)
def podAtOk (l : List S79) (i : Nat) : Bool := podOk (podAtN l i) && ((decide (i = 0) || decide ((podAtN l (i - 1)).f0 < (podAtN l i).f0)) && allFrom i 0 (homesOk l i))
def stockOk (l : List S79) : Bool := decide (l.length ≤ 12) && allFrom l.length 0 (podAtOk l)
theorem rd_stack {l : List S72} {i : Nat} : rd_T72 l (i : Int) = stackAt l i := by unfold rd_T72 stackAt; rw [Int.toNat_natCast]
theorem rd_pod {l : List S79} {i : Nat} : rd_T79 l (i : Int) = podAtN l i := by unfold rd_T79 podAtN; rw [Int.toNat_natCast]
theorem wrap_pd {i : Nat} (h : i < 9223372036854775807) (h0 : 0 < i) : wrap64 ((i : Int) - 1) = ((i - 1 : Nat) : Int) := by unfold wrap64; omega
theorem spec_l5Stacks_l0 (l : List S72) (hn : l.length ≤ 4194304) : ∀ (d i : Nat), i + d = l.length → Ev (fun k => spec_l5Stacks.l0 k l i) (decide (l.length ≤ 8) && allFrom l.length i (stackOk l))
 | 0, i, h => Ev.unroll (by
   simp only [spec_l5Stacks.l0]
   refine Ev.ifn (by omega) (Ev.fin ?_)
   rw [allFrom_end (by omega), Bool.and_true, Bool.eq_iff_iff, decide_eq_true_eq, decide_eq_true_eq]; omega)
 | d + 1, i, h => Ev.unroll (by
   have hi : i < l.length := by omega
   have ih := spec_l5Stacks_l0 l hn d (i + 1) (by omega)
   simp only [spec_l5Stacks.l0, spec_l1In_f, some_bind, rd_stack, wrap_sc (show i < 9223372036854775807 by omega)]
   rw [allFrom_step hi]
   refine Ev.ifp (by omega) (Ev.ifp (by omega) ?_)
   have no : ∀ b : Bool, stackOk l i = false → Ev (fun _ : Nat => some false) (decide (l.length ≤ 8) && (stackOk l i && allFrom l.length (i + 1) (stackOk l))) := fun _ e => Ev.fin (by rw [e]; simp)
   refine ev_ite' (fun h1 => ev_ite' (fun h2 => ev_ite' (fun h3 => ?_) (fun h3 => no true ?_)) (fun h2 => no true ?_)) (fun h1 => no true ?_)
   ·by_cases h0 : 0 < i
    ·rw [wrap_pd (by omega) h0]
     simp only [rd_stack]
     refine Ev.ifp (by omega) (Ev.ifp (by omega) (Ev.ifp (by omega) ?_))
     refine ev_ite' (fun h4 => no true ?_) (fun h4 => ?_)
     ·unfold stackOk; rw [h1, h2, h3, decide_eq_false (by omega), decide_eq_false (by omega)]; rfl
     ·rw [show stackOk l i = true by unfold stackOk; rw [h1, h2, h3, decide_eq_true (show (stackAt l (i - 1)).f0 < (stackAt l i).f0 by omega), Bool.or_true]; rfl, Bool.true_and]
      exact ih
    ·refine Ev.ifn (by omega) ?_
     rw [show stackOk l i = true by unfold stackOk; rw [h1, h2, h3, decide_eq_true (show i = 0 by omega), Bool.true_or]; rfl, Bool.true_and]
     exact ih
   ·unfold stackOk; rw [Bool.not_eq_true] at h3; rw [h3]; simp
   ·unfold stackOk; rw [Bool.not_eq_true] at h2; rw [h2]; simp
   ·unfold stackOk; rw [Bool.not_eq_true] at h1; rw [h1]; simp)
theorem impl_podOk_l0 (x y : Int) (l : List S72) (hn : l.length ≤ 4194304) : ∀ (d i : Nat), i + d = l.length → Ev (fun k => impl_podOk.l0 k l l.length i x y l) (allFrom l.length i (stackOk l))
 | 0, i, h => Ev.unroll (by
   simp only [impl_podOk.l0]
   exact Ev.ifn (by omega) (Ev.fin (allFrom_end (by omega)).symm))
 | d + 1, i, h => Ev.unroll (by
   have hi : i < l.length := by omega
   have ih := impl_podOk_l0 x y l hn d (i + 1) (by omega)
   simp only [impl_podOk.l0, impl_in_f, some_bind, rd_stack, wrap_sc (show i < 9223372036854775807 by omega)]
   rw [allFrom_step hi]
   refine Ev.ifp (by omega) (Ev.ifp (by omega) (Ev.ifp (by omega) ?_))
   have no : ∀ b : Bool, stackOk l i = false → Ev (fun _ : Nat => some false) (stackOk l i && allFrom l.length (i + 1) (stackOk l)) := fun _ e => Ev.fin (by rw [e]; simp)
   refine ev_ite' (fun h1 => ev_ite' (fun h2 => ev_ite' (fun h3 => ?_) (fun h3 => no true ?_)) (fun h2 => no true ?_)) (fun h1 => no true ?_)
   ·by_cases h0 : 0 < i
    ·rw [wrap_pd (by omega) h0]
     simp only [rd_stack]
     refine Ev.ifp (by omega) (Ev.ifp (by omega) (Ev.ifp (by omega) ?_))
     refine ev_ite' (fun h4 => no true ?_) (fun h4 => ?_)
     ·unfold stackOk; rw [h1, h2, h3, decide_eq_false (by omega), decide_eq_false (by omega)]; rfl
     ·rw [show stackOk l i = true by unfold stackOk; rw [h1, h2, h3, decide_eq_true (show (stackAt l (i - 1)).f0 < (stackAt l i).f0 by omega), Bool.or_true]; rfl, Bool.true_and]
      exact ih
    ·refine Ev.ifn (by omega) ?_
     rw [show stackOk l i = true by unfold stackOk; rw [h1, h2, h3, decide_eq_true (show i = 0 by omega), Bool.true_or]; rfl, Bool.true_and]
     exact ih
   ·unfold stackOk; rw [Bool.not_eq_true] at h3; rw [h3]; simp
   ·unfold stackOk; rw [Bool.not_eq_true] at h2; rw [h2]; simp
   ·unfold stackOk; rw [Bool.not_eq_true] at h1; rw [h1]; simp)
theorem impl_podOk_f (p : S79) (hn : p.f2.length ≤ 4194304) : Ev (fun k => impl_podOk.f k p.f0 p.f1 p.f2) (podOk p) := by
 unfold impl_podOk.f
 simp only [impl_in_f, some_bind]
 have no : podOk p = false → Ev (fun k => impl_podOk.j0 k true p.f0 p.f1 p.f2) (podOk p) := fun e => Ev.unroll (by
  simp only [impl_podOk.j0]
  exact Ev.ifp trivial (Ev.fin e.symm))
 refine ev_ite' (fun h1 => ev_ite' (fun h2 => ?_) (fun h2 => no ?_)) (fun h1 => no ?_)
 ·by_cases h3 : p.f2.length ≤ 8
  ·rw [decide_eq_false (by omega)]
   refine Ev.unroll ?_
   simp only [impl_podOk.j0]
   rw [show podOk p = stacksOk p.f2 by unfold podOk; rw [h1, h2, decide_eq_true h3]; rfl]
   exact Ev.ifn (by simp) (impl_podOk_l0 _ _ p.f2 hn p.f2.length 0 (by omega))
  ·rw [decide_eq_true (by omega)]
   exact no (by unfold podOk; rw [decide_eq_false h3]; simp)
 ·unfold podOk; rw [Bool.not_eq_true] at h2; rw [h2]; simp
 ·unfold podOk; rw [Bool.not_eq_true] at h1; rw [h1]; simp
theorem spec_StockOk_l1 (l : List S79) (i : Nat) (hn : l.length ≤ 4194304) (hi : i < l.length) (R : Bool) (hR : Ev (fun k => spec_StockOk.l0 k ((i + 1 : Nat) : Int) l) R) : ∀ (d j : Nat), j + d = i → Ev (fun k => spec_StockOk.l1 k i j l (podAtN l i).f0 (podAtN l i).f1 (podAtN l i).f2) (allFrom i j (homesOk l i) && R)
 | 0, j, h => Ev.unroll (by
   simp only [spec_StockOk.l1, wrap_sc (show i < 9223372036854775807 by omega)]
   rw [allFrom_end (by omega), Bool.true_and]
   exact Ev.ifn (by omega) hR)
 | d + 1, j, h => Ev.unroll (by
   have ih := spec_StockOk_l1 l i hn hi R hR d (j + 1) (by omega)
   simp only [spec_StockOk.l1, rd_pod, wrap_sc (show j < 9223372036854775807 by omega)]
   rw [allFrom_step (by omega)]
   refine Ev.ifp (by omega) (Ev.ifp (by omega) (Ev.ifp (by omega) ?_))
   refine ev_ite' (fun h1 => Ev.fin ?_) (fun h1 => ?_)
   ·unfold homesOk; rw [decide_eq_true h1]; rfl
   ·rw [show homesOk l i j = true by unfold homesOk; rw [decide_eq_false h1]; rfl, Bool.true_and]
    exact ih)
theorem spec_StockOk_l0 (l : List S79) (hn : l.length ≤ 4194304) (hx : ∀ x ∈ l, x.f2.length ≤ 4194304) : ∀ (d i : Nat), i + d = l.length → Ev (fun k => spec_StockOk.l0 k i l) (allFrom l.length i (podAtOk l))
 | 0, i, h => Ev.unroll (by
   simp only [spec_StockOk.l0]
   exact Ev.ifn (by omega) (Ev.fin (allFrom_end (by omega)).symm))
 | d + 1, i, h => Ev.unroll (by
   have hi : i < l.length := by omega
   have hp : (podAtN l i).f2.length ≤ 4194304 := by unfold podAtN; rw [getD_at hi]; exact hx _ (List.getElem_mem hi)
   have ih := spec_StockOk_l0 l hn hx d (i + 1) (by omega)
   have hs : Ev (fun k => spec_l5Stacks.f k (podAtN l i).f2) (decide ((podAtN l i).f2.length ≤ 8) && stacksOk (podAtN l i).f2) := spec_l5Stacks_l0 _ hp (podAtN l i).f2.length 0 (by omega)
   simp only [spec_StockOk.l0, spec_l1In_f, some_bind, rd_pod]
   rw [allFrom_step hi]
   refine Ev.ifp (by omega) (Ev.ifp (by omega) ?_)
   have no : podAtOk l i = false → Ev (fun k => spec_StockOk.j1 k i true l (podAtN l i).f0 (podAtN l i).f1 (podAtN l i).f2) (podAtOk l i && allFrom l.length (i + 1) (podAtOk l)) := fun e => Ev.unroll (by
    simp only [spec_StockOk.j1]
    exact Ev.ifp trivial (Ev.fin (by rw [e]; rfl)))
   have yes : podOk (podAtN l i) = true → (i = 0 ∨ (podAtN l (i - 1)).f0 < (podAtN l i).f0) → Ev (fun k => spec_StockOk.j1 k i false l (podAtN l i).f0 (podAtN l i).f1 (podAtN l i).f2) (podAtOk l i && allFrom l.length (i + 1) (podAtOk l)) := fun e e2 => Ev.unroll (by
    simp only [spec_StockOk.j1]
    rw [show podAtOk l i = allFrom i 0 (homesOk l i) by unfold podAtOk; rw [e, Bool.true_and, show (decide (i = 0) || decide ((podAtN l (i - 1)).f0 < (podAtN l i).f0)) = true by rcases e2 with h | h <;> simp [h], Bool.true_and]]
    exact Ev.ifn (by simp) (spec_StockOk_l1 l i hn hi _ ih i 0 (by omega)))
   refine ev_ite' (fun h1 => ev_ite' (fun h2 => Ev.bind hs (ev_ite' (fun h3 => ?_) (fun h3 => no ?_))) (fun h2 => no ?_)) (fun h1 => no ?_)
   ·have hok : podOk (podAtN l i) = true := by unfold podOk; rw [h1, h2, h3]; rfl
    by_cases h0 : 0 < i
    ·rw [wrap_pd (by omega) h0]
     simp only [rd_pod]
     refine Ev.ifp (by omega) (Ev.ifp (by omega) (Ev.ifp (by omega) ?_))
     by_cases h4 : (podAtN l (i - 1)).f0 ≥ (podAtN l i).f0
     ·rw [decide_eq_true h4]
      exact no (by unfold podAtOk; rw [hok, decide_eq_false (by omega), decide_eq_false (by omega)]; rfl)
     ·rw [decide_eq_false h4]
      exact yes hok (Or.inr (by omega))
    ·exact Ev.ifn (by omega) (yes hok (Or.inl (by omega)))
   ·unfold podAtOk podOk; rw [Bool.not_eq_true] at h3; rw [h3]; simp
   ·unfold podAtOk podOk; rw [Bool.not_eq_true] at h2; rw [h2]; simp
   ·unfold podAtOk podOk; rw [Bool.not_eq_true] at h1; rw [h1]; simp)
theorem spec_StockOk_f (l : List S79) (hn : l.length ≤ 4194304) (hx : ∀ x ∈ l, x.f2.length ≤ 4194304) : Ev (fun k => spec_StockOk.f k l) (stockOk l) := by
 unfold spec_StockOk.f stockOk
 by_cases h : l.length ≤ 12
 ·rw [decide_eq_true h, Bool.true_and]
  exact Ev.ifn (by omega) (spec_StockOk_l0 l hn hx l.length 0 (by omega))
 ·rw [decide_eq_false h, Bool.false_and]
  exact Ev.ifp (by omega) (Ev.now _)
theorem impl_StockOk_l1 (l ys : List S79) (i : Nat) (hn : l.length ≤ 4194304) (hi : i < l.length) (hy : ys = l.take i) (R : Bool) (hR : Ev (fun k => impl_StockOk.l0 k l l.length ((i + 1 : Nat) : Int) l) R) : ∀ (d j : Nat), j + d = i → Ev (fun k => impl_StockOk.l1 k l l.length i ys ys.length j l (podAtN l i).f0 (podAtN l i).f1 (podAtN l i).f2) (allFrom i j (homesOk l i) && R)
 | 0, j, h => Ev.unroll (by
   have hl : ys.length = i := by rw [hy]; simp; omega
   simp only [impl_StockOk.l1, wrap_sc (show i < 9223372036854775807 by omega)]
   rw [allFrom_end (by omega), Bool.true_and]
   exact Ev.ifn (by omega) hR)
 | d + 1, j, h => Ev.unroll (by
   have hl : ys.length = i := by rw [hy]; simp; omega
   have hj : podAtN ys j = podAtN l j := by unfold podAtN; rw [getD_at (by omega), getD_at (by omega)]; simp [hy]
   have ih := impl_StockOk_l1 l ys i hn hi hy R hR d (j + 1) (by omega)
   simp only [impl_StockOk.l1, rd_pod, wrap_sc (show j < 9223372036854775807 by omega)]
   rw [allFrom_step (by omega), hj]
   refine Ev.ifp (by omega) (Ev.ifp (by omega) (Ev.ifp (by omega) ?_))
   refine ev_ite' (fun h1 => Ev.fin ?_) (fun h1 => ?_)
   ·unfold homesOk; rw [decide_eq_true h1]; rfl
   ·rw [show homesOk l i j = true by unfold homesOk; rw [decide_eq_false h1]; rfl, Bool.true_and]
    exact ih)
theorem impl_StockOk_l0 (l : List S79) (hn : l.length ≤ 4194304) (hx : ∀ x ∈ l, x.f2.length ≤ 4194304) : ∀ (d i : Nat), i + d = l.length → Ev (fun k => impl_StockOk.l0 k l l.length i l) (allFrom l.length i (podAtOk l) && decide (l.length ≤ 12))
 | 0, i, h => Ev.unroll (by
   simp only [impl_StockOk.l0]
   refine Ev.ifn (by omega) (Ev.fin ?_)
   rw [allFrom_end (by omega), Bool.true_and, Bool.eq_iff_iff, decide_eq_true_eq, decide_eq_true_eq]; omega)
 | d + 1, i, h => Ev.unroll (by
   have hi : i < l.length := by omega
   have hp : (podAtN l i).f2.length ≤ 4194304 := by unfold podAtN; rw [getD_at hi]; exact hx _ (List.getElem_mem hi)
   have ih := impl_StockOk_l0 l hn hx d (i + 1) (by omega)
   have hs := impl_podOk_f (podAtN l i) hp
   simp only [impl_StockOk.l0, rd_pod]
   rw [allFrom_step hi]
   refine Ev.ifp (by omega) (Ev.ifp (by omega) (Ev.ifp (by omega) (Ev.bind hs ?_)))
   have no : podAtOk l i = false → Ev (fun k => impl_StockOk.j1 k i l l.length i true l (podAtN l i).f0 (podAtN l i).f1 (podAtN l i).f2) (podAtOk l i && allFrom l.length (i + 1) (podAtOk l) && decide (l.length ≤ 12)) := fun e => Ev.unroll (by
    simp only [impl_StockOk.j1]
    exact Ev.ifp trivial (Ev.fin (by rw [e]; rfl)))
   have yes : podOk (podAtN l i) = true → (i = 0 ∨ (podAtN l (i - 1)).f0 < (podAtN l i).f0) → Ev (fun k => impl_StockOk.j1 k i l l.length i false l (podAtN l i).f0 (podAtN l i).f1 (podAtN l i).f2) (podAtOk l i && allFrom l.length (i + 1) (podAtOk l) && decide (l.length ≤ 12)) := fun e e2 => Ev.unroll (by
    simp only [impl_StockOk.j1, some_bind, Int.toNat_natCast]
    rw [show podAtOk l i = allFrom i 0 (homesOk l i) by unfold podAtOk; rw [e, Bool.true_and, show (decide (i = 0) || decide ((podAtN l (i - 1)).f0 < (podAtN l i).f0)) = true by rcases e2 with h | h <;> simp [h], Bool.true_and], Bool.and_assoc]
    exact Ev.ifn (by simp) (Ev.ifp (by omega) (Ev.ifp (by omega) (impl_StockOk_l1 l _ i hn hi rfl _ ih i 0 (by omega)))))
   refine ev_ite' (fun hok => ?_) (fun hok => no ?_)
   ·by_cases h0 : 0 < i
    ·rw [wrap_pd (by omega) h0]
     simp only [rd_pod]
     refine Ev.ifp (by omega) (Ev.ifp (by omega) (Ev.ifp (by omega) ?_))
     by_cases h4 : (podAtN l (i - 1)).f0 ≥ (podAtN l i).f0
     ·rw [decide_eq_true h4]
      exact no (by unfold podAtOk; rw [hok, decide_eq_false (by omega), decide_eq_false (by omega)]; rfl)
     ·rw [decide_eq_false h4]
      exact yes hok (Or.inr (by omega))
    ·exact Ev.ifn (by omega) (yes hok (Or.inl (by omega)))
   ·unfold podAtOk; rw [Bool.not_eq_true] at hok; rw [hok]; simp)
theorem impl_StockOk_f (l : List S79) (hn : l.length ≤ 4194304) (hx : ∀ x ∈ l, x.f2.length ≤ 4194304) : Ev (fun k => impl_StockOk.f k l) (stockOk l) := by
 unfold impl_StockOk.f stockOk
 rw [Bool.and_comm]
 exact impl_StockOk_l0 l hn hx l.length 0 (by omega)

def lowIdx (l : List S72) (sku : Int) : Nat := (l.takeWhile (fun x => decide (x.f0 < sku))).length
def hitAt (l : List S72) (sku : Int) : Bool := decide (lowIdx l sku < l.length) && ((stackAt l (lowIdx l sku)).f0 == sku)
def stackOf (l : List S72) (sku : Int) : S72 := (l.find? (fun x => x.f0 == sku)).getD ⟨sku, 0, 0⟩
theorem lowIdx_cons (x : S72) (l : List S72) (sku : Int) : lowIdx (x :: l) sku = if x.f0 < sku then lowIdx l sku + 1 else 0 := by
 unfold lowIdx
 rw [List.takeWhile_cons]
 by_cases h : x.f0 < sku <;> simp [h]
theorem hit_stack {sku : Int} : ∀ {l : List S72}, l.Pairwise (fun a b => a.f0 < b.f0) → (hitAt l sku = true → stackOf l sku = stackAt l (lowIdx l sku) ∧ (stackOf l sku).f0 = sku) ∧ (hitAt l sku = false → stackOf l sku = ⟨sku, 0, 0⟩ ∧ ∀ x ∈ l, x.f0 ≠ sku)
 | [], _ => ⟨fun h => by simp [hitAt] at h, fun _ => ⟨rfl, by simp⟩⟩
 | x :: t, hp => by
  have hs := List.pairwise_cons.1 hp
  have ih := hit_stack (sku := sku) hs.2
  have el := lowIdx_cons x t sku
  by_cases h1 : x.f0 < sku
  ·rw [if_pos h1] at el
   have e1 : hitAt (x :: t) sku = hitAt t sku := by
    unfold hitAt stackAt
    rw [el, List.getD_cons_succ, List.length_cons]
    simp
   have e2 : stackOf (x :: t) sku = stackOf t sku := by
    unfold stackOf
    rw [List.find?_cons_of_neg (by simp; omega)]
   have e3 : stackAt (x :: t) (lowIdx (x :: t) sku) = stackAt t (lowIdx t sku) := by
    unfold stackAt; rw [el, List.getD_cons_succ]
   rw [e1, e2, e3]
   exact ⟨ih.1, fun h => ⟨(ih.2 h).1, fun y hy => by
    rcases List.mem_cons.1 hy with rfl | hy
    ·omega
    ·exact (ih.2 h).2 y hy⟩⟩
  ·rw [if_neg h1] at el
   have e3 : stackAt (x :: t) (lowIdx (x :: t) sku) = x := by unfold stackAt; rw [el]; rfl
   by_cases h2 : x.f0 = sku
   ·have e2 : stackOf (x :: t) sku = x := by unfold stackOf; rw [List.find?_cons_of_pos (by simpa using h2)]; rfl
    refine ⟨fun _ => ⟨by rw [e2, e3], by rw [e2]; exact h2⟩, fun h => ?_⟩
    unfold hitAt at h
    rw [e3, el] at h
    simp [h2] at h
   ·have h4 : ∀ y ∈ x :: t, y.f0 ≠ sku := fun y hy => by
     rcases List.mem_cons.1 hy with rfl | hy
     ·exact h2
     ·have := hs.1 y hy; omega
    refine ⟨fun h => ?_, fun _ => ⟨?_, h4⟩⟩
    ·unfold hitAt at h
     rw [e3] at h
     simp [h2] at h
    ·unfold stackOf
     rw [List.find?_eq_none.2 (fun y hy => by simpa using h4 y hy)]; rfl
theorem stacks_facts {l : List S72} (h : stacksOk l = true) : l.Pairwise (fun a b => a.f0 < b.f0) ∧ ∀ x ∈ l, 1 ≤ x.f0 ∧ x.f0 ≤ 50 ∧ 1 ≤ x.f1 ∧ x.f1 ≤ 1000 ∧ 0 ≤ x.f2 ∧ x.f2 ≤ x.f1 := by
 unfold stacksOk at h
 rw [allFrom_iff] at h
 have hk : ∀ j, j < l.length → (1 ≤ (stackAt l j).f0 ∧ (stackAt l j).f0 ≤ 50 ∧ 1 ≤ (stackAt l j).f1 ∧ (stackAt l j).f1 ≤ 1000 ∧ 0 ≤ (stackAt l j).f2 ∧ (stackAt l j).f2 ≤ (stackAt l j).f1) ∧ (0 < j → (stackAt l (j - 1)).f0 < (stackAt l j).f0) := fun j hj => by
  have := h j (by omega) hj
  unfold stackOk at this
  simp only [Bool.and_eq_true, Bool.or_eq_true, inB_iff, decide_eq_true_eq] at this
  exact ⟨⟨this.1.1, this.1.2, this.2.1.1, this.2.1.2, this.2.2.1.1, this.2.2.1.2⟩, fun h0 => by rcases this.2.2.2 with h | h; omega; exact h⟩
 have step : ∀ (j i : Nat), i < j → j < l.length → (stackAt l i).f0 < (stackAt l j).f0 := by
  intro j
  induction j with
  | zero => intro i h; omega
  | succ j ih =>
   intro i h1 h2
   have h3 := (hk (j + 1) h2).2 (by omega)
   rw [Nat.add_sub_cancel] at h3
   by_cases e : i = j
   ·subst e; exact h3
   ·exact Int.lt_trans (ih i (by omega) (by omega)) h3
 refine ⟨List.pairwise_iff_getElem.2 fun i j hi hj hij => ?_, fun x hx => ?_⟩
 ·have := step j i hij hj
  unfold stackAt at this
  rwa [getD_at hi, getD_at hj] at this
 ·obtain ⟨j, hj, rfl⟩ := List.mem_iff_getElem.1 hx
  have := (hk j hj).1
  unfold stackAt at this
  rwa [getD_at hj] at this
structure PodFacts (p : S79) : Prop where
 id : 1 ≤ p.f0 ∧ p.f0 ≤ 999
 home : 0 ≤ p.f1 ∧ p.f1 ≤ 99
 len : p.f2.length ≤ 8
 stacks : stacksOk p.f2 = true
theorem stock_pods {l : List S79} (h : stockOk l = true) : l.length ≤ 12 ∧ ∀ i : Nat, i < l.length → PodFacts (podAtN l i) := by
 unfold stockOk at h
 simp only [Bool.and_eq_true, decide_eq_true_eq, allFrom_iff] at h
 refine ⟨h.1, fun i hi => ?_⟩
 have := h.2 i (by omega) hi
 unfold podAtOk podOk at this
 simp only [Bool.and_eq_true, inB_iff, decide_eq_true_eq] at this
 exact ⟨this.1.1, this.1.2.1, this.1.2.2.1, this.1.2.2.2⟩
theorem stackOf_bounds {l : List S72} (h : stacksOk l = true) (sku : Int) : 0 ≤ (stackOf l sku).f1 ∧ (stackOf l sku).f1 ≤ 1000 ∧ 0 ≤ (stackOf l sku).f2 ∧ (stackOf l sku).f2 ≤ (stackOf l sku).f1 := by
 have f := stacks_facts h
 unfold stackOf
 cases e : l.find? (fun x => x.f0 == sku) with
 | none => simp
 | some x =>
  have := f.2 x (List.mem_of_find?_eq_some e)
  simp only [Option.getD_some]; omega
theorem impl_stackAt_f (x y : Int) (l : List S72) (sku : Int) (hn : l.length ≤ 4194304) : Ev (fun k => impl_stackAt.f k x y l sku) ((lowIdx l sku : Nat), hitAt l sku) := by
 have key : ∀ (d i : Nat), i + d = l.length → i + lowIdx (l.drop i) sku = lowIdx l sku → Ev (fun k => impl_stackAt.l0 k sku i x y l) (((lowIdx l sku : Nat) : Int), hitAt l sku) := by
  intro d
  induction d with
  | zero =>
   intro i e hl
   refine Ev.unroll ?_
   simp only [impl_stackAt.l0]
   rw [drop_end (by omega)] at hl
   have : lowIdx l sku = i := by rw [← hl]; simp [lowIdx]
   refine Ev.ifn (by omega) (Ev.fin ?_)
   unfold hitAt
   rw [this, decide_eq_false (by omega)]; rfl
  | succ d ih =>
   intro i e hl
   have hi : i < l.length := by omega
   have ei : stackAt l i = l[i] := by unfold stackAt; exact getD_at hi
   refine Ev.unroll ?_
   simp only [impl_stackAt.l0, rd_stack, wrap_sc (show i < 9223372036854775807 by omega)]
   rw [drop_cons hi, lowIdx_cons, ← ei] at hl
   refine Ev.ifp (by omega) (Ev.ifp (by omega) (ev_ite' (fun h => ?_) (fun h => ?_)))
   ·rw [if_pos h] at hl
    exact ih (i + 1) (by omega) (by omega)
   ·rw [if_neg h] at hl
    have : lowIdx l sku = i := by omega
    refine Ev.fin ?_
    unfold hitAt
    rw [this, decide_eq_true hi, Bool.true_and]
 exact key l.length 0 (by omega) (by simp)

theorem spec_l5Stack_f (x y : Int) (l : List S72) (sku : Int) (hn : l.length ≤ 4194304) : Ev (fun k => spec_l5Stack.f k x y l sku) ((stackOf l sku).f0, (stackOf l sku).f1, (stackOf l sku).f2) := by
 have key : ∀ (d i : Nat), i + d = l.length → stackOf (l.drop i) sku = stackOf l sku → Ev (fun k => spec_l5Stack.l0 k sku i x y l) ((stackOf l sku).f0, (stackOf l sku).f1, (stackOf l sku).f2) := by
  intro d
  induction d with
  | zero =>
   intro i e hl
   refine Ev.unroll ?_
   simp only [spec_l5Stack.l0]
   rw [drop_end (by omega)] at hl
   exact Ev.ifn (by omega) (Ev.fin (by rw [← hl]; rfl))
  | succ d ih =>
   intro i e hl
   have hi : i < l.length := by omega
   have ei : stackAt l i = l[i] := by unfold stackAt; exact getD_at hi
   refine Ev.unroll ?_
   simp only [spec_l5Stack.l0, rd_stack, wrap_sc (show i < 9223372036854775807 by omega), ei]
   rw [drop_cons hi] at hl
   refine Ev.ifp (by omega) (Ev.ifp (by omega) (ev_ite' (fun h => Ev.fin ?_) (fun h => ih (i + 1) (by omega) ?_)))
   ·rw [← hl]; unfold stackOf; rw [List.find?_cons_of_pos (by simpa using h)]; rfl
   ·rw [← hl]; unfold stackOf; rw [List.find?_cons_of_neg (by simpa using h)]
 exact key l.length 0 (by omega) rfl

theorem hit_facts {l : List S72} (h : stacksOk l = true) (sku : Int) : (hitAt l sku = true → lowIdx l sku < l.length ∧ stackAt l (lowIdx l sku) = stackOf l sku) ∧ (hitAt l sku = false → (stackOf l sku).f1 = 0 ∧ (stackOf l sku).f2 = 0) := by
 have f := hit_stack (sku := sku) (stacks_facts h).1
 refine ⟨fun e => ⟨?_, (f.1 e).1.symm⟩, fun e => by rw [(f.2 e).1]; exact ⟨rfl, rfl⟩⟩
 unfold hitAt at e
 rw [Bool.and_eq_true, decide_eq_true_eq] at e
 exact e.1
theorem impl_copyStock_f (l : List S79) (hn : l.length ≤ 4194304) (hx : ∀ x ∈ l, x.f2.length ≤ 4194304) : Ev (fun k => impl_copyStock.f k l) l := by
 have key : ∀ (d i : Nat), i + d = l.length → Ev (fun k => impl_copyStock.l0 k l (l.length : Int) i (l.take i)) l := by
  intro d
  induction d with
  | zero =>
   intro i e
   refine Ev.unroll ?_
   simp only [impl_copyStock.l0]
   exact Ev.ifn (by omega) (Ev.fin (List.take_of_length_le (by omega)))
  | succ d ih =>
   intro i e
   have hi : i < l.length := by omega
   have hb := hx _ (List.getElem_mem hi)
   have e1 : podAtN l i = l[i] := by unfold podAtN; exact getD_at hi
   refine Ev.unroll ?_
   simp only [impl_copyStock.l0, rd_pod, e1, List.nil_append, List.length_nil, List.length_take, wrap_sc (show i < 9223372036854775807 by omega)]
   refine Ev.ifp (by omega) (Ev.ifp (by omega) (Ev.ifp (by omega) (Ev.ifp (by omega) (Ev.ifp (by omega) ?_))))
   have h := ih (i + 1) (by omega)
   rw [List.take_succ_eq_append_getElem hi] at h
   exact h
 exact key l.length 0 (by omega)
theorem spec_l5Copy_f (l : List S79) (hn : l.length ≤ 4194304) (hx : ∀ x ∈ l, x.f2.length ≤ 4194304) : Ev (fun k => spec_l5Copy.f k l) l := by
 have key : ∀ (d i : Nat), i + d = l.length → Ev (fun k => spec_l5Copy.l0 k i l (l.take i)) l := by
  intro d
  induction d with
  | zero =>
   intro i e
   refine Ev.unroll ?_
   simp only [spec_l5Copy.l0]
   exact Ev.ifn (by omega) (Ev.fin (List.take_of_length_le (by omega)))
  | succ d ih =>
   intro i e
   have hi : i < l.length := by omega
   have hb := hx _ (List.getElem_mem hi)
   have e1 : podAtN l i = l[i] := by unfold podAtN; exact getD_at hi
   refine Ev.unroll ?_
   simp only [spec_l5Copy.l0, rd_pod, e1, some_bind, List.nil_append, List.length_nil, List.length_take, wrap_sc (show i < 9223372036854775807 by omega)]
   refine Ev.ifp (by omega) (Ev.ifp (by omega) (Ev.ifp (by omega) (Ev.ifp (by omega) ?_)))
   have h := ih (i + 1) (by omega)
   rw [List.take_succ_eq_append_getElem hi] at h
   exact h
 exact key l.length 0 (by omega)
def podIdx (l : List S79) (id : Int) : Int := match l.findIdx? (fun p => p.f0 == id) with
 | some i => (i : Int)
 | none => -1
theorem podIdx_bounds (l : List S79) (id : Int) : -1 ≤ podIdx l id ∧ podIdx l id < l.length := by
 unfold podIdx
 cases e : l.findIdx? (fun p => p.f0 == id) with
 | none => show -1 ≤ (-1 : Int) ∧ (-1 : Int) < l.length; omega
 | some i =>
  have := (List.findIdx?_eq_some_iff_getElem.1 e).1
  show -1 ≤ (i : Int) ∧ (i : Int) < l.length; omega
theorem podIdx_cons (p : S79) (l : List S79) (id : Int) : podIdx (p :: l) id = if p.f0 = id then 0 else if podIdx l id = -1 then -1 else podIdx l id + 1 := by
 unfold podIdx
 rw [List.findIdx?_cons]
 by_cases h : p.f0 = id
 ·simp [h]
 ·have hb : (p.f0 == id) = false := by simpa using h
  rw [hb]
  cases e : l.findIdx? (fun p => p.f0 == id) with
  | none => simp [h]
  | some i => simp [h]
theorem impl_podAt_f (l : List S79) (id : Int) (hn : l.length ≤ 4194304) : Ev (fun k => impl_podAt.f k l id) (podIdx l id) := by
 have key : ∀ (d i : Nat), i + d = l.length → Ev (fun k => impl_podAt.l0 k id l (l.length : Int) i) (if podIdx (l.drop i) id = -1 then -1 else (i : Int) + podIdx (l.drop i) id) := by
  intro d
  induction d with
  | zero =>
   intro i e
   refine Ev.unroll ?_
   simp only [impl_podAt.l0]
   rw [drop_end (by omega)]
   exact Ev.ifn (by omega) (Ev.fin (by simp [podIdx]))
  | succ d ih =>
   intro i e
   have hi : i < l.length := by omega
   have e1 : podAtN l i = l[i] := by unfold podAtN; exact getD_at hi
   have hb := podIdx_bounds (l.drop (i + 1)) id
   refine Ev.unroll ?_
   simp only [impl_podAt.l0, rd_pod, e1, wrap_sc (show i < 9223372036854775807 by omega)]
   rw [drop_cons hi, podIdx_cons]
   refine Ev.ifp (by omega) (Ev.ifp (by omega) (Ev.ifp (by omega) (ev_ite' (fun h => Ev.fin ?_) (fun h => ?_))))
   ·rw [if_pos h, if_neg (by omega)]; omega
   ·have h2 := ih (i + 1) (by omega)
    rw [if_neg h]
    refine Ev.congr (fun _ => rfl) (r := _) ?_
    by_cases h3 : podIdx (l.drop (i + 1)) id = -1
    ·rw [if_pos h3] at h2; rw [if_pos h3, if_pos rfl]; exact h2
    ·rw [if_neg h3] at h2
     rw [if_neg h3, if_neg (by omega)]
     rw [show (i : Int) + (podIdx (l.drop (i + 1)) id + 1) = ((i + 1 : Nat) : Int) + podIdx (l.drop (i + 1)) id by omega]
     exact h2
 have h := key l.length 0 (by omega)
 rw [List.drop_zero] at h
 have hb := podIdx_bounds l id
 rw [show (if podIdx l id = -1 then (-1 : Int) else ((0 : Nat) : Int) + podIdx l id) = podIdx l id by split <;> omega] at h
 exact h
theorem spec_l5Pod_f (l : List S79) (id : Int) (hn : l.length ≤ 4194304) : Ev (fun k => spec_l5Pod.f k l id) (podIdx l id) := by
 have key : ∀ (d i : Nat), i + d = l.length → Ev (fun k => spec_l5Pod.l0 k id i l) (if podIdx (l.drop i) id = -1 then -1 else (i : Int) + podIdx (l.drop i) id) := by
  intro d
  induction d with
  | zero =>
   intro i e
   refine Ev.unroll ?_
   simp only [spec_l5Pod.l0]
   rw [drop_end (by omega)]
   exact Ev.ifn (by omega) (Ev.fin (by simp [podIdx]))
  | succ d ih =>
   intro i e
   have hi : i < l.length := by omega
   have e1 : podAtN l i = l[i] := by unfold podAtN; exact getD_at hi
   have hb := podIdx_bounds (l.drop (i + 1)) id
   refine Ev.unroll ?_
   simp only [spec_l5Pod.l0, rd_pod, e1, wrap_sc (show i < 9223372036854775807 by omega)]
   rw [drop_cons hi, podIdx_cons]
   refine Ev.ifp (by omega) (Ev.ifp (by omega) (ev_ite' (fun h => Ev.fin ?_) (fun h => ?_)))
   ·rw [if_pos h, if_neg (by omega)]; omega
   ·have h2 := ih (i + 1) (by omega)
    rw [if_neg h]
    by_cases h3 : podIdx (l.drop (i + 1)) id = -1
    ·rw [if_pos h3] at h2; rw [if_pos h3, if_pos rfl]; exact h2
    ·rw [if_neg h3] at h2
     rw [if_neg h3, if_neg (by omega)]
     rw [show (i : Int) + (podIdx (l.drop (i + 1)) id + 1) = ((i + 1 : Nat) : Int) + podIdx (l.drop (i + 1)) id by omega]
     exact h2
 have h := key l.length 0 (by omega)
 rw [List.drop_zero] at h
 have hb := podIdx_bounds l id
 rw [show (if podIdx l id = -1 then (-1 : Int) else ((0 : Nat) : Int) + podIdx l id) = podIdx l id by split <;> omega] at h
 exact h
def askOk (l : List S79) (sku n : Int) : Bool := stockOk l && (inB sku 1 50 && inB n 1 1000)
def placeOf (l : List S79) (id sku n : Int) : Int × Int := if askOk l sku n = true then (if 0 ≤ podIdx l id then (podIdx l id, 0) else (-1, 2)) else (-1, 1)
theorem impl_place_f (l : List S79) (id sku n : Int) (hn : l.length ≤ 4194304) (hx : ∀ x ∈ l, x.f2.length ≤ 4194304) : Ev (fun k => impl_place.f k l id sku n) (placeOf l id sku n) := by
 have hj : Ev (fun k => impl_place.j0 k id false l) (if 0 ≤ podIdx l id then (podIdx l id, 0) else (-1, 2)) := by
  refine Ev.unroll ?_
  simp only [impl_place.j0]
  refine Ev.ifn (by decide) (Ev.bind (impl_podAt_f l id hn) ?_)
  by_cases h : 0 ≤ podIdx l id
  ·exact Ev.ifp h (Ev.fin (if_pos h).symm)
  ·exact Ev.ifn (by omega) (Ev.fin (if_neg h).symm)
 have hf : Ev (fun k => impl_place.j0 k id true l) (((-1 : Int), (1 : Int))) := by
  refine Ev.unroll ?_
  simp only [impl_place.j0]
  exact Ev.ifp (by first | rfl | trivial) (Ev.now _)
 unfold impl_place.f placeOf askOk
 refine Ev.bind (impl_StockOk_f l hn hx) ?_
 simp only [impl_in_f, some_bind]
 cases h1 : stockOk l
 ·simp only [Bool.false_and]; exact Ev.ifn (by decide) hf
 ·refine Ev.ifp (by first | rfl | trivial) ?_
  cases h2 : inB sku 1 50
  ·simp only [Bool.true_and, Bool.false_and]; exact Ev.ifn (by decide) hf
  ·refine Ev.ifp (by first | rfl | trivial) ?_
   cases h3 : inB n 1 1000
   ·exact hf
   ·exact hj
theorem spec_l5Call_f (l : List S79) (id sku n : Int) (hn : l.length ≤ 4194304) (hx : ∀ x ∈ l, x.f2.length ≤ 4194304) :
  Ev (fun k => spec_l5Call.f k l id sku n) (if askOk l sku n = true then (if 0 ≤ podIdx l id then (podIdx l id, (stackOf (rd_T79 l (podIdx l id)).f2 sku).f0, (stackOf (rd_T79 l (podIdx l id)).f2 sku).f1, (stackOf (rd_T79 l (podIdx l id)).f2 sku).f2, 0) else (0, 0, 0, 0, 2)) else (0, 0, 0, 0, 1)) := by
 have hb := podIdx_bounds l id
 have hj : Ev (fun k => spec_l5Call.j0 k id sku false l) (if 0 ≤ podIdx l id then (podIdx l id, (stackOf (rd_T79 l (podIdx l id)).f2 sku).f0, (stackOf (rd_T79 l (podIdx l id)).f2 sku).f1, (stackOf (rd_T79 l (podIdx l id)).f2 sku).f2, 0) else (0, 0, 0, 0, 2)) := by
  refine Ev.unroll ?_
  simp only [spec_l5Call.j0]
  refine Ev.ifn (by decide) (Ev.bind (spec_l5Pod_f l id hn) ?_)
  by_cases h : 0 ≤ podIdx l id
  ·rw [if_pos h]
   refine Ev.ifn (by omega) (Ev.ifp h (Ev.ifp hb.2 (Ev.bind (spec_l5Stack_f _ _ (rd_T79 l (podIdx l id)).f2 sku ?_) (Ev.now _))))
   obtain ⟨i, hi⟩ : ∃ i : Nat, podIdx l id = (i : Int) := ⟨(podIdx l id).toNat, by omega⟩
   rw [hi, rd_pod]
   unfold podAtN
   rw [getD_at (by omega)]
   exact hx _ (List.getElem_mem _)
  ·rw [if_neg h]; exact Ev.ifp (by omega) (Ev.now _)
 have hf : Ev (fun k => spec_l5Call.j0 k id sku true l) (((0 : Int), (0 : Int), (0 : Int), (0 : Int), (1 : Int))) := by
  refine Ev.unroll ?_
  simp only [spec_l5Call.j0]
  exact Ev.ifp (by first | rfl | trivial) (Ev.now _)
 unfold spec_l5Call.f askOk
 refine Ev.bind (spec_StockOk_f l hn hx) ?_
 simp only [spec_l1In_f, some_bind]
 cases h1 : stockOk l
 ·simp only [Bool.false_and]; exact Ev.ifn (by decide) hf
 ·refine Ev.ifp (by first | rfl | trivial) ?_
  cases h2 : inB sku 1 50
  ·simp only [Bool.true_and, Bool.false_and]; exact Ev.ifn (by decide) hf
  ·refine Ev.ifp (by first | rfl | trivial) ?_
   cases h3 : inB n 1 1000
   ·exact hf
   ·exact hj
def insS (x : S72) : Bool → List S72 → List S72
 | b, [] => if b = true then [] else [x]
 | b, y :: ys => if (!b && decide (y.f0 ≥ x.f0)) = true then x :: (if y.f0 = x.f0 then insS x true ys else y :: insS x true ys) else (if y.f0 = x.f0 then insS x b ys else y :: insS x b ys)
theorem spec_l5With_f (l : List S72) (x : S72) (hn : l.length ≤ 4194304) : Ev (fun k => spec_l5With.f k l x.f0 x.f1 x.f2) (insS x (x.f1 == 0) l) := by
 have key : ∀ (d i : Nat) (acc : List S72) (b : Bool), i + d = l.length → acc.length ≤ 2 * i → Ev (fun k => spec_l5With.l0 k l acc b i x.f0 x.f1 x.f2) (acc ++ insS x b (l.drop i)) := by
  intro d
  induction d with
  | zero =>
   intro i acc b e ha
   refine Ev.unroll ?_
   simp only [spec_l5With.l0]
   rw [drop_end (by omega)]
   refine Ev.ifn (by omega) ?_
   cases b
   ·refine Ev.ifn (by decide) (Ev.ifp (by omega) (Ev.fin ?_))
    rfl
   ·exact Ev.ifp (by first | rfl | trivial) (Ev.fin (by simp [insS]))
  | succ d ih =>
   intro i acc b e ha
   have hi : i < l.length := by omega
   have ei : stackAt l i = l[i] := by unfold stackAt; exact getD_at hi
   rw [drop_cons hi]
   refine Ev.unroll ?_
   simp only [spec_l5With.l0, rd_stack, ei]
   refine Ev.ifp (by omega) ?_
   have hw := wrap_sc (show i < 9223372036854775807 by omega)
   have hno : ∀ b : Bool, (!b && decide (l[i].f0 ≥ x.f0)) = false → Ev (fun k => spec_l5With.j1 k l acc b i false x.f0 x.f1 x.f2) (acc ++ insS x b (l[i] :: l.drop (i + 1))) := by
    intro b hb
    refine Ev.unroll ?_
    simp only [spec_l5With.j1, rd_stack, ei, hw]
    refine Ev.ifn (by decide) (Ev.ifp (by omega) (Ev.ifp (by omega) ?_))
    unfold insS
    rw [hb, if_neg (by decide)]
    by_cases h2 : l[i].f0 = x.f0
    ·rw [if_pos h2]; exact Ev.ifp h2 (ih (i + 1) acc b (by omega) (by omega))
    ·rw [if_neg h2]
     refine Ev.ifn h2 (Ev.ifp (by omega) ?_)
     have h3 := ih (i + 1) (acc ++ [l[i]]) b (by omega) (by simp; omega)
     rw [List.append_assoc] at h3
     exact h3
   cases b
   ·refine Ev.ifn (by decide) (Ev.ifp (by omega) ?_)
    cases h1 : decide (l[i].f0 ≥ x.f0)
    ·exact hno false (by rw [h1]; rfl)
    ·refine Ev.unroll ?_
     simp only [spec_l5With.j1, rd_stack, ei, hw, some_bind]
     refine Ev.ifp (by first | rfl | trivial) (Ev.ifp (by omega) (Ev.ifp (by omega) (Ev.ifp (by omega) ?_)))
     unfold insS
     rw [h1, if_pos (by decide)]
     by_cases h2 : l[i].f0 = x.f0
     ·rw [if_pos h2]
      refine Ev.ifp h2 ?_
      have h3 := ih (i + 1) (acc ++ [x]) true (by omega) (by simp; omega)
      rw [List.append_assoc] at h3
      exact h3
     ·rw [if_neg h2]
      refine Ev.ifn h2 (Ev.ifp (by simp; omega) ?_)
      have h3 := ih (i + 1) (acc ++ [x] ++ [l[i]]) true (by omega) (by simp; omega)
      rw [show acc ++ [x] ++ [l[i]] ++ insS x true (l.drop (i + 1)) = acc ++ x :: l[i] :: insS x true (l.drop (i + 1)) by simp] at h3
      exact h3
   ·exact Ev.ifp (by first | rfl | trivial) (hno true (by simp))
 have h := key l.length 0 [] (x.f1 == 0) (by omega) (by simp)
 rw [List.drop_zero, List.nil_append] at h
 exact h
theorem spec_l5Put_f (l : List S79) (i : Int) (x : S72) (hn : l.length ≤ 4194304) (hx : ∀ x ∈ l, x.f2.length ≤ 4194304) (h0 : 0 ≤ i) (h1 : i < l.length) :
  Ev (fun k => spec_l5Put.f k l i x.f0 x.f1 x.f2) (l.set i.toNat ⟨(rd_T79 l i).f0, (rd_T79 l i).f1, insS x (x.f1 == 0) (rd_T79 l i).f2⟩) := by
 unfold spec_l5Put.f
 have hb : (rd_T79 l i).f2.length ≤ 4194304 := by
  unfold rd_T79
  rw [getD_at (show i.toNat < l.length by omega)]
  exact hx _ (List.getElem_mem _)
 exact Ev.bind (spec_l5Copy_f l hn hx) (Ev.ifp h0 (Ev.ifp h1 (Ev.bind (spec_l5With_f _ x hb) (Ev.now _))))
theorem insS_gone (x : S72) : ∀ (l : List S72), (∀ y ∈ l, y.f0 ≠ x.f0) → insS x true l = l
 | [], _ => rfl
 | y :: ys, h => by
  unfold insS
  rw [if_neg (by simp), if_neg (h y List.mem_cons_self), insS_gone x ys (fun z hz => h z (List.mem_cons_of_mem _ hz))]
theorem insS_hit (x : S72) (b : Bool) : ∀ {l : List S72}, l.Pairwise (fun a b => a.f0 < b.f0) → hitAt l x.f0 = true → insS x b l = if b = true then l.take (lowIdx l x.f0) ++ l.drop (lowIdx l x.f0 + 1) else l.set (lowIdx l x.f0) x
 | [], _, h => by simp [hitAt] at h
 | y :: t, hp, h => by
  have hs := List.pairwise_cons.1 hp
  have el := lowIdx_cons y t x.f0
  by_cases h1 : y.f0 < x.f0
  ·rw [if_pos h1] at el
   have e1 : hitAt t x.f0 = true := by
    rw [← h]
    unfold hitAt stackAt
    rw [el, List.getD_cons_succ, List.length_cons]
    simp
   have ih := insS_hit x b hs.2 e1
   unfold insS
   rw [if_neg (by simp; omega), if_neg (by omega), ih, el]
   cases b <;> simp
  ·rw [if_neg h1] at el
   have h2 : y.f0 = x.f0 := by
    unfold hitAt stackAt at h
    rw [el] at h
    simpa using h
   have hg : insS x true t = t := insS_gone x t (fun z hz => by have := hs.1 z hz; omega)
   rw [el]
   cases b
   ·unfold insS
    rw [if_pos (by simp; omega), if_pos h2, hg]
    rfl
   ·unfold insS
    rw [if_neg (by simp), if_pos h2, hg]
    rfl
def heldOf (l : List S79) (id sku n more : Int) : List S79 × Int :=
 if askOk l sku n = true then (if 0 ≤ podIdx l id then
  (if hitAt (rd_T79 l (podIdx l id)).f2 sku = true ∧ 0 ≤ (stackOf (rd_T79 l (podIdx l id)).f2 sku).f2 + more ∧ (stackOf (rd_T79 l (podIdx l id)).f2 sku).f2 + more ≤ (stackOf (rd_T79 l (podIdx l id)).f2 sku).f1 then
   (l.set (podIdx l id).toNat ⟨(rd_T79 l (podIdx l id)).f0, (rd_T79 l (podIdx l id)).f1, (rd_T79 l (podIdx l id)).f2.set (lowIdx (rd_T79 l (podIdx l id)).f2 sku) ⟨sku, (stackOf (rd_T79 l (podIdx l id)).f2 sku).f1, (stackOf (rd_T79 l (podIdx l id)).f2 sku).f2 + more⟩⟩, 0)
  else (l, 3)) else (l, 2)) else (l, 1)
structure AskFacts (l : List S79) (id sku n : Int) : Prop where
 len : l.length ≤ 12
 idx : podIdx l id < l.length
 pod : podOk (rd_T79 l (podIdx l id)) = true
 st : stacksOk (rd_T79 l (podIdx l id)).f2 = true
 st8 : (rd_T79 l (podIdx l id)).f2.length ≤ 8
 sku : 1 ≤ sku ∧ sku ≤ 50
 n : 1 ≤ n ∧ n ≤ 1000
theorem ask_facts {l : List S79} {id sku n : Int} (h : askOk l sku n = true) (h0 : 0 ≤ podIdx l id) : AskFacts l id sku n := by
 unfold askOk at h
 simp only [Bool.and_eq_true, inB_iff] at h
 have hb := podIdx_bounds l id
 obtain ⟨i, hi⟩ : ∃ i : Nat, podIdx l id = (i : Int) := ⟨(podIdx l id).toNat, by omega⟩
 have hs := h.1
 unfold stockOk at hs
 simp only [Bool.and_eq_true, decide_eq_true_eq, allFrom_iff] at hs
 have hp := hs.2 i (by omega) (by omega)
 unfold podAtOk at hp
 simp only [Bool.and_eq_true] at hp
 have hq := hp.1
 have hq2 := hq
 unfold podOk at hq2
 simp only [Bool.and_eq_true, decide_eq_true_eq] at hq2
 rw [← rd_pod] at hq hq2
 rw [← hi] at hq hq2
 exact ⟨hs.1, hb.2, hq, hq2.2.2.2, hq2.2.2.1, h.2.1, h.2.2⟩
theorem impl_held_f (l : List S79) (id sku n more : Int) (hn : l.length ≤ 4194304) (hx : ∀ x ∈ l, x.f2.length ≤ 4194304) (hm : more = n ∨ more = -n) : Ev (fun k => impl_held.f k l id sku n more) (heldOf l id sku n more) := by
 unfold impl_held.f heldOf
 refine Ev.bind (impl_copyStock_f l hn hx) (Ev.bind (impl_place_f l id sku n hn hx) ?_)
 unfold placeOf
 by_cases ha : askOk l sku n = true
 ·rw [if_pos ha, if_pos ha]
  by_cases h0 : 0 ≤ podIdx l id
  ·have f := ask_facts ha h0
   rw [if_pos h0, if_pos h0]
   have hf := stackOf_bounds f.st sku
   have hh := hit_facts f.st sku
   have hs := hit_stack (sku := sku) (stacks_facts f.st).1
   refine Ev.ifp (by first | rfl | trivial) (Ev.ifp h0 (Ev.ifp f.idx (Ev.bind (impl_stackAt_f _ _ (rd_T79 l (podIdx l id)).f2 sku (by have := f.st8; omega)) ?_)))
   generalize hp : rd_T79 l (podIdx l id) = p at *
   have hfn := f.n
   cases hit : hitAt p.f2 sku
   ·refine Ev.ifn (by simp) (Ev.fin ?_)
    rw [if_neg (fun h => by cases h.1)]
   ·have h1 := hh.1 hit
    have h2 := hs.1 hit
    have e1 : rd_T72 p.f2 ((lowIdx p.f2 sku : Nat) : Int) = stackOf p.f2 sku := by rw [rd_stack]; exact h1.2
    have hw : wrap64 ((stackOf p.f2 sku).f2 + more) = (stackOf p.f2 sku).f2 + more := wrap_id (by omega) (by omega)
    refine Ev.ifp (by first | rfl | trivial) (Ev.ifp (by omega) (Ev.ifp (by omega) ?_))
    simp only [e1, impl_in_f, some_bind, hw, Int.toNat_natCast]
    by_cases hc : 0 ≤ (stackOf p.f2 sku).f2 + more ∧ (stackOf p.f2 sku).f2 + more ≤ (stackOf p.f2 sku).f1
    ·refine Ev.ifp (inB_iff.2 hc) (Ev.fin ?_)
     rw [if_pos (by exact ⟨by first | rfl | trivial, hc⟩), h2.2]
    ·refine Ev.ifn (fun h => hc (inB_iff.1 h)) (Ev.fin ?_)
     rw [if_neg (fun h => hc h.2)]
  ·rw [if_neg h0, if_neg h0]
   exact Ev.ifn (by decide) (Ev.now _)
 ·rw [if_neg ha, if_neg ha]
  exact Ev.ifn (by decide) (Ev.now _)
theorem impl_Hold_f (l : List S79) (id sku n : Int) (hn : l.length ≤ 4194304) (hx : ∀ x ∈ l, x.f2.length ≤ 4194304) : Ev (fun k => impl_Hold.f k l id sku n) (heldOf l id sku n n) := by
 unfold impl_Hold.f
 exact Ev.bind (impl_held_f l id sku n n hn hx (.inl rfl)) (Ev.now _)
theorem spec_Hold_f (l : List S79) (id sku n : Int) (hn : l.length ≤ 4194304) (hx : ∀ x ∈ l, x.f2.length ≤ 4194304) : Ev (fun k => spec_Hold.f k l id sku n) (heldOf l id sku n n) := by
 unfold spec_Hold.f heldOf
 refine Ev.bind (spec_l5Call_f l id sku n hn hx) ?_
 by_cases ha : askOk l sku n = true
 ·rw [if_pos ha, if_pos ha]
  by_cases h0 : 0 ≤ podIdx l id
  ·have f := ask_facts ha h0
   rw [if_pos h0, if_pos h0]
   have hf := stackOf_bounds f.st sku
   have hh := hit_facts f.st sku
   have hs := hit_stack (sku := sku) (stacks_facts f.st).1
   have hfn := f.n
   have hst := (stacks_facts f.st).1
   refine Ev.ifp (by first | rfl | trivial) ?_
   have hput := spec_l5Put_f l (podIdx l id) ⟨(stackOf (rd_T79 l (podIdx l id)).f2 sku).f0, (stackOf (rd_T79 l (podIdx l id)).f2 sku).f1, (stackOf (rd_T79 l (podIdx l id)).f2 sku).f2 + n⟩ hn hx h0 f.idx
   generalize hp : rd_T79 l (podIdx l id) = p at *
   simp only [wrap_id (x := (stackOf p.f2 sku).f1 - (stackOf p.f2 sku).f2) (by omega) (by omega), wrap_id (x := (stackOf p.f2 sku).f2 + n) (by omega) (by omega)]
   cases hit : hitAt p.f2 sku
   ·have h1 := hh.2 hit
    refine Ev.ifp (by omega) (Ev.bind (spec_l5Copy_f l hn hx) (Ev.fin ?_))
    rw [if_neg (fun h => by cases h.1)]
   ·have h2 := hs.1 hit
    by_cases hc : (stackOf p.f2 sku).f1 - (stackOf p.f2 sku).f2 < n
    ·refine Ev.ifp hc (Ev.bind (spec_l5Copy_f l hn hx) (Ev.fin ?_))
     rw [if_neg (fun h => by omega)]
    ·refine Ev.ifn hc (Ev.bind hput (Ev.fin ?_))
     have hN : 1 ≤ (stackOf p.f2 sku).f1 := by omega
     rw [if_pos ⟨rfl, by omega, by omega⟩]
     have hi := insS_hit ⟨(stackOf p.f2 sku).f0, (stackOf p.f2 sku).f1, (stackOf p.f2 sku).f2 + n⟩ false hst (by show hitAt p.f2 (stackOf p.f2 sku).f0 = true; rw [h2.2]; exact hit)
     dsimp only at hi
     rw [show ((stackOf p.f2 sku).f1 == 0) = false by simp; omega, hi, h2.2, if_neg (by decide)]
  ·rw [if_neg h0, if_neg h0]
   refine Ev.ifn (by decide) (Ev.bind (spec_l5Copy_f l hn hx) (Ev.now _))
 ·rw [if_neg ha, if_neg ha]
  exact Ev.ifn (by decide) (Ev.bind (spec_l5Copy_f l hn hx) (Ev.now _))

theorem spec_Release_f (l : List S79) (id sku n : Int) (hn : l.length ≤ 4194304) (hx : ∀ x ∈ l, x.f2.length ≤ 4194304) : Ev (fun k => spec_Release.f k l id sku n) (heldOf l id sku n (-n)) := by
 unfold spec_Release.f heldOf
 refine Ev.bind (spec_l5Call_f l id sku n hn hx) ?_
 by_cases ha : askOk l sku n = true
 ·rw [if_pos ha, if_pos ha]
  by_cases h0 : 0 ≤ podIdx l id
  ·have f := ask_facts ha h0
   rw [if_pos h0, if_pos h0]
   have hf := stackOf_bounds f.st sku
   have hh := hit_facts f.st sku
   have hs := hit_stack (sku := sku) (stacks_facts f.st).1
   have hfn := f.n
   have hst := (stacks_facts f.st).1
   have hsf := (stacks_facts f.st).2
   have h8 := f.st8
   refine Ev.ifp (by first | rfl | trivial) ?_
   have hput := spec_l5Put_f l (podIdx l id) ⟨(stackOf (rd_T79 l (podIdx l id)).f2 sku).f0, (stackOf (rd_T79 l (podIdx l id)).f2 sku).f1, (stackOf (rd_T79 l (podIdx l id)).f2 sku).f2 - n⟩ hn hx h0 f.idx
   generalize hp : rd_T79 l (podIdx l id) = p at *
   simp only [wrap_id (x := (stackOf p.f2 sku).f2 - n) (by omega) (by omega)]
   cases hit : hitAt p.f2 sku
   ·have h1 := hh.2 hit
    refine Ev.ifp (by omega) (Ev.bind (spec_l5Copy_f l hn hx) (Ev.fin ?_))
    rw [if_neg (fun h => by cases h.1)]
   ·have h2 := hs.1 hit
    have h1 := hh.1 hit
    by_cases hc : (stackOf p.f2 sku).f2 < n
    ·refine Ev.ifp hc (Ev.bind (spec_l5Copy_f l hn hx) (Ev.fin ?_))
     rw [if_neg (fun h => by omega)]
    ·refine Ev.ifn hc (Ev.bind hput (Ev.fin ?_))
     have hN : 1 ≤ (stackOf p.f2 sku).f1 := by omega
     rw [if_pos ⟨rfl, by omega, by omega⟩]
     have hi := insS_hit ⟨(stackOf p.f2 sku).f0, (stackOf p.f2 sku).f1, (stackOf p.f2 sku).f2 - n⟩ false hst (by show hitAt p.f2 (stackOf p.f2 sku).f0 = true; rw [h2.2]; exact hit)
     dsimp only at hi
     rw [show ((stackOf p.f2 sku).f1 == 0) = false by simp; omega, hi, h2.2, if_neg (by decide), Int.sub_eq_add_neg]
  ·rw [if_neg h0, if_neg h0]
   refine Ev.ifn (by decide) (Ev.bind (spec_l5Copy_f l hn hx) (Ev.now _))
 ·rw [if_neg ha, if_neg ha]
  exact Ev.ifn (by decide) (Ev.bind (spec_l5Copy_f l hn hx) (Ev.now _))

theorem getD_mid {α : Type} (ys zs : List α) (x d : α) (i : Nat) (h : i = ys.length) : (ys ++ x :: zs).getD i d = x := by subst h; simp [List.getD_eq_getElem?_getD]
theorem set_big {l : List S79} (h : l.length ≤ 4194304 ∧ ∀ x ∈ l, x.f2.length ≤ 4194304) (i : Nat) (p : S79) (hp : p.f2.length ≤ 4194304) : (l.set i p).length ≤ 4194304 ∧ ∀ x ∈ l.set i p, x.f2.length ≤ 4194304 :=
 ⟨by simpa using h.1, fun x hx => by
  rcases List.mem_or_eq_of_mem_set hx with hx | rfl
  ·exact h.2 x hx
  ·exact hp⟩

def takenStacks (s : List S72) (sku n : Int) : List S72 := if (stackOf s sku).f1 - n = 0 then s.take (lowIdx s sku) ++ s.drop (lowIdx s sku + 1) else s.set (lowIdx s sku) ⟨sku, (stackOf s sku).f1 - n, (stackOf s sku).f2 - n⟩
def takeOf (l : List S79) (id sku n : Int) : List S79 × Int :=
 if askOk l sku n = true then (if 0 ≤ podIdx l id then
  (if hitAt (rd_T79 l (podIdx l id)).f2 sku = true ∧ n ≤ (stackOf (rd_T79 l (podIdx l id)).f2 sku).f2 then
   (l.set (podIdx l id).toNat ⟨(rd_T79 l (podIdx l id)).f0, (rd_T79 l (podIdx l id)).f1, takenStacks (rd_T79 l (podIdx l id)).f2 sku n⟩, 0)
  else (l, 3)) else (l, 2)) else (l, 1)
theorem takeOf_len (l : List S79) (id sku n : Int) (hn : l.length ≤ 4194304) (hx : ∀ x ∈ l, x.f2.length ≤ 4194304) : (takeOf l id sku n).1.length ≤ 4194304 ∧ ∀ x ∈ (takeOf l id sku n).1, x.f2.length ≤ 4194304 := by
 unfold takeOf
 split
 ·split
  ·rename_i ha h0
   have f := ask_facts ha h0
   have h8 := f.st8
   split
   ·refine set_big ⟨hn, hx⟩ _ _ ?_
    unfold takenStacks
    dsimp only
    split
    ·simp only [List.length_append, List.length_take, List.length_drop]; omega
    ·simp only [List.length_set]; omega
   ·exact ⟨hn, hx⟩
  ·exact ⟨hn, hx⟩
 ·exact ⟨hn, hx⟩
theorem spec_TakeOut_f (l : List S79) (id sku n : Int) (hn : l.length ≤ 4194304) (hx : ∀ x ∈ l, x.f2.length ≤ 4194304) : Ev (fun k => spec_TakeOut.f k l id sku n) (takeOf l id sku n) := by
 unfold spec_TakeOut.f takeOf
 refine Ev.bind (spec_l5Call_f l id sku n hn hx) ?_
 by_cases ha : askOk l sku n = true
 ·rw [if_pos ha, if_pos ha]
  by_cases h0 : 0 ≤ podIdx l id
  ·have f := ask_facts ha h0
   rw [if_pos h0, if_pos h0]
   have hf := stackOf_bounds f.st sku
   have hh := hit_facts f.st sku
   have hs := hit_stack (sku := sku) (stacks_facts f.st).1
   have hfn := f.n
   have hst := (stacks_facts f.st).1
   have h8 := f.st8
   refine Ev.ifp (by first | rfl | trivial) ?_
   have hput := spec_l5Put_f l (podIdx l id) ⟨(stackOf (rd_T79 l (podIdx l id)).f2 sku).f0, (stackOf (rd_T79 l (podIdx l id)).f2 sku).f1 - n, (stackOf (rd_T79 l (podIdx l id)).f2 sku).f2 - n⟩ hn hx h0 f.idx
   generalize hp : rd_T79 l (podIdx l id) = p at *
   simp only [wrap_id (x := (stackOf p.f2 sku).f2 - n) (by omega) (by omega), wrap_id (x := (stackOf p.f2 sku).f1 - n) (by omega) (by omega)]
   cases hit : hitAt p.f2 sku
   ·have h1 := hh.2 hit
    refine Ev.ifp (by omega) (Ev.bind (spec_l5Copy_f l hn hx) (Ev.fin ?_))
    rw [if_neg (fun h => by cases h.1)]
   ·have h2 := hs.1 hit
    by_cases hc : (stackOf p.f2 sku).f2 < n
    ·refine Ev.ifp hc (Ev.bind (spec_l5Copy_f l hn hx) (Ev.fin ?_))
     rw [if_neg (fun h => by omega)]
    ·refine Ev.ifn hc (Ev.bind hput (Ev.fin ?_))
     rw [if_pos ⟨rfl, by omega⟩]
     have hi := insS_hit ⟨(stackOf p.f2 sku).f0, (stackOf p.f2 sku).f1 - n, (stackOf p.f2 sku).f2 - n⟩ ((stackOf p.f2 sku).f1 - n == 0) hst (by show hitAt p.f2 (stackOf p.f2 sku).f0 = true; rw [h2.2]; exact hit)
     dsimp only at hi
     rw [hi, h2.2]
     unfold takenStacks
     by_cases hz : (stackOf p.f2 sku).f1 - n = 0
     ·rw [if_pos hz, if_pos (by simpa using hz)]
     ·rw [if_neg hz, if_neg (by simpa using hz)]
  ·rw [if_neg h0, if_neg h0]
   refine Ev.ifn (by decide) (Ev.bind (spec_l5Copy_f l hn hx) (Ev.now _))
 ·rw [if_neg ha, if_neg ha]
  exact Ev.ifn (by decide) (Ev.bind (spec_l5Copy_f l hn hx) (Ev.now _))

def BigS (l : List S79) : Prop := l.length ≤ 4194304 ∧ ∀ x ∈ l, x.f2.length ≤ 4194304
def eachOf (O : List S79 → Int → Int → Int → List S79 × Int) (s : List S79) : List S50 → List S79 → List S79 × Bool
 | [], out => (out, true)
 | p :: ps, out => if (O out p.f0 p.f1 p.f2).2 = 0 then eachOf O s ps (O out p.f0 p.f1 p.f2).1 else (s, false)
theorem eachOf_big {O : List S79 → Int → Int → Int → List S79 × Int} (hO : ∀ l a b c, BigS l → BigS (O l a b c).1) {s : List S79} (hs : BigS s) : ∀ (ps : List S50) (out : List S79), BigS out → BigS (eachOf O s ps out).1
 | [], out, h => h
 | p :: ps, out, h => by
  unfold eachOf
  split
  ·exact eachOf_big hO hs ps _ (hO _ _ _ _ h)
  ·exact hs
theorem heldOf_big (l : List S79) (id sku n more : Int) (h : BigS l) : BigS (heldOf l id sku n more).1 := by
 unfold heldOf
 split
 ·split
  ·rename_i ha h0
   have f := ask_facts ha h0
   split
   ·refine ⟨by simp only [List.length_set]; exact h.1, fun x hx => ?_⟩
    rcases List.mem_or_eq_of_mem_set hx with hx | rfl
    ·exact h.2 x hx
    ·have := f.st8; simp only [List.length_set]; omega
   ·exact h
  ·exact h
 ·exact h
theorem takeOf_big (l : List S79) (id sku n : Int) (h : BigS l) : BigS (takeOf l id sku n).1 := takeOf_len l id sku n h.1 h.2
def opOf (a : Int) : List S79 → Int → Int → Int → List S79 × Int := fun l id sku n => if a = 1 then heldOf l id sku n n else if a = 2 then heldOf l id sku n (-n) else takeOf l id sku n
theorem opOf_big (a : Int) (l : List S79) (id sku n : Int) (h : BigS l) : BigS (opOf a l id sku n).1 := by
 unfold opOf
 split
 ·exact heldOf_big l id sku n _ h
 ·split
  ·exact heldOf_big l id sku n _ h
  ·exact takeOf_big l id sku n h
theorem spec_l6Each_l0 (s : List S79) (hs : BigS s) (p : List S50) (hp : p.length ≤ 1048576) (a : Int) : ∀ (d i : Nat) (out : List S79), i + d = p.length → BigS out → Ev (fun k => spec_l6Each.l0 k p a i s out) (eachOf (opOf a) s (p.drop i) out)
 | 0, i, out, e, h => Ev.unroll (by
   simp only [spec_l6Each.l0]
   rw [drop_end (by omega)]
   exact Ev.ifn (by omega) (Ev.now _))
 | d + 1, i, out, e, h => by
   have hi : i < p.length := by omega
   have er : rd_T50 p i = p[i] := rd_struct_at hi
   have ih := spec_l6Each_l0 s hs p hp a d (i + 1) (opOf a out p[i].f0 p[i].f1 p[i].f2).1 (by omega) (opOf_big a out _ _ _ h)
   refine Ev.unroll ?_
   simp only [spec_l6Each.l0, er, wrap_sc (show i < 9223372036854775807 by omega)]
   rw [drop_cons hi, eachOf]
   refine Ev.ifp (by omega) (Ev.ifp (by omega) ?_)
   by_cases h1 : a = 1
   ·have e1 : opOf a out p[i].f0 p[i].f1 p[i].f2 = heldOf out p[i].f0 p[i].f1 p[i].f2 p[i].f2 := by unfold opOf; rw [if_pos h1]
    rw [e1] at ih ⊢
    refine Ev.ifp h1 (Ev.bind (spec_Hold_f out _ _ _ h.1 h.2) ?_)
    by_cases h0 : (heldOf out p[i].f0 p[i].f1 p[i].f2 p[i].f2).2 = 0
    ·rw [if_pos h0]; exact Ev.ifp h0 ih
    ·rw [if_neg h0]; exact Ev.ifn h0 (Ev.bind (spec_l5Copy_f s hs.1 hs.2) (Ev.now _))
   ·refine Ev.ifn h1 ?_
    by_cases h2 : a = 2
    ·have e1 : opOf a out p[i].f0 p[i].f1 p[i].f2 = heldOf out p[i].f0 p[i].f1 p[i].f2 (-p[i].f2) := by unfold opOf; rw [if_neg h1, if_pos h2]
     rw [e1] at ih ⊢
     refine Ev.ifp h2 (Ev.bind (spec_Release_f out _ _ _ h.1 h.2) ?_)
     by_cases h0 : (heldOf out p[i].f0 p[i].f1 p[i].f2 (-p[i].f2)).2 = 0
     ·rw [if_pos h0]; exact Ev.ifp h0 ih
     ·rw [if_neg h0]; exact Ev.ifn h0 (Ev.bind (spec_l5Copy_f s hs.1 hs.2) (Ev.now _))
    ·have e1 : opOf a out p[i].f0 p[i].f1 p[i].f2 = takeOf out p[i].f0 p[i].f1 p[i].f2 := by unfold opOf; rw [if_neg h1, if_neg h2]
     rw [e1] at ih ⊢
     refine Ev.ifn h2 (Ev.bind (spec_TakeOut_f out _ _ _ h.1 h.2) ?_)
     by_cases h0 : (takeOf out p[i].f0 p[i].f1 p[i].f2).2 = 0
     ·rw [if_pos h0]; exact Ev.ifp h0 ih
     ·rw [if_neg h0]; exact Ev.ifn h0 (Ev.bind (spec_l5Copy_f s hs.1 hs.2) (Ev.now _))
theorem spec_l6Each_f (s : List S79) (hs : BigS s) (p : List S50) (hp : p.length ≤ 1048576) (a : Int) : Ev (fun k => spec_l6Each.f k s p a) (eachOf (opOf a) s p s) := by
 unfold spec_l6Each.f
 exact Ev.bind (spec_l5Copy_f s hs.1 hs.2) (spec_l6Each_l0 s hs p hp a p.length 0 s (by omega) hs)

def SmS (l : List S79) : Prop := l.length ≤ 100 ∧ ∀ x ∈ l, x.f2.length ≤ 100
theorem SmS.big {l : List S79} (h : SmS l) : BigS l := ⟨by have := h.1; omega, fun x hx => by have := h.2 x hx; omega⟩
theorem l5Draw_l1_ok (b : List Int) (hb : b.length ≤ 1048576) (id : Nat) (hid : id < 6)
  (K : ∀ (l : List S79) (i s : Int), 0 ≤ i → l.length ≤ id + 1 → (∀ x ∈ l, x.f2.length ≤ 10) → ∃ (r : List S79) (i' s' : Int), Ev (fun k => spec_l5Draw.l0 k ((id + 1 : Nat) : Int) b i s l) (r, i', s') ∧ 0 ≤ i' ∧ r.length ≤ 10 ∧ ∀ x ∈ r, x.f2.length ≤ 10) :
  ∀ (d j : Nat) (i s p0 p1 : Int) (l : List S79) (st : List S72), j + d = 6 → 0 ≤ i → l.length ≤ id → (∀ x ∈ l, x.f2.length ≤ 10) → st.length ≤ j → ∃ (r : List S79) (i' s' : Int), Ev (fun k => spec_l5Draw.l1 k id j b i s l p0 p1 st) (r, i', s') ∧ 0 ≤ i' ∧ r.length ≤ 10 ∧ ∀ x ∈ r, x.f2.length ≤ 10 := by
 intro d
 induction d with
 | zero =>
  intro j i s p0 p1 l st e hi hl hx hs
  obtain ⟨r, i', s', er, h⟩ := K (l ++ [⟨p0, p1, st⟩]) i s hi (by simp; omega) (fun x hx2 => by
   rcases List.mem_append.1 hx2 with h | h
   ·exact hx x h
   ·have : x = ⟨p0, p1, st⟩ := by simpa using h
    subst this; show st.length ≤ 10; omega)
  refine ⟨r, i', s', Ev.unroll ?_, h⟩
  simp only [spec_l5Draw.l1, wrap_sc (show id < 9223372036854775807 by omega)]
  exact Ev.ifn (by omega) (Ev.ifp (by omega) er)
 | succ d ih =>
  intro j i s p0 p1 l st e hi hl hx hs
  obtain ⟨v, i1, s1, e1, hi1, hv⟩ := l1Int_ok b i s [0, 0, 1, 3, 5, 12] hi hb (by decide) (by decide)
  have hv2 : v ≤ 12 := by simp at hv; omega
  by_cases h0 : v > 0
  ·obtain ⟨y, i2, s2, e2, hi2, _⟩ := l1Below_ok b i1 s1 (wrap64 (v + 1)) hi1 hb
   obtain ⟨z, i3, s3, e3, hi3, _⟩ := l1Int_ok b i2 s2 [0, 0, 0, y] hi2 hb (by simp) (by simp)
   obtain ⟨r, i', s', er, h⟩ := ih (j + 1) i3 s3 p0 p1 l (st ++ [⟨(j : Int), v, z⟩]) (by omega) hi3 hl hx (by simp; omega)
   refine ⟨r, i', s', Ev.unroll ?_, h⟩
   simp only [spec_l5Draw.l1, e1, some_bind, e2, e3, wrap_sc (show j < 9223372036854775807 by omega)]
   exact Ev.ifp (by omega) (Ev.ifp h0 (Ev.ifp (by omega) er))
  ·obtain ⟨r, i', s', er, h⟩ := ih (j + 1) i1 s1 p0 p1 l st (by omega) hi1 hl hx (by omega)
   refine ⟨r, i', s', Ev.unroll ?_, h⟩
   simp only [spec_l5Draw.l1, e1, some_bind, wrap_sc (show j < 9223372036854775807 by omega)]
   exact Ev.ifp (by omega) (Ev.ifn h0 er)
theorem l5Draw_l0_ok (b : List Int) (hb : b.length ≤ 1048576) : ∀ (d id : Nat) (i s : Int) (l : List S79), id + d = 6 → 0 ≤ i → l.length ≤ id → (∀ x ∈ l, x.f2.length ≤ 10) → ∃ (r : List S79) (i' s' : Int), Ev (fun k => spec_l5Draw.l0 k id b i s l) (r, i', s') ∧ 0 ≤ i' ∧ r.length ≤ 10 ∧ ∀ x ∈ r, x.f2.length ≤ 10 := by
 intro d
 induction d with
 | zero =>
  intro id i s l e hi hl hx
  refine ⟨l, i, s, Ev.unroll ?_, hi, by omega, hx⟩
  simp only [spec_l5Draw.l0]
  exact Ev.ifn (by omega) (Ev.now _)
 | succ d ih =>
  intro id i s l e hi hl hx
  obtain ⟨y, i1, s1, e1, hi1⟩ := l1Once_ok b i s 4 hi hb
  cases y with
  | true =>
   obtain ⟨r, i', s', er, h⟩ := ih (id + 1) i1 s1 l (by omega) hi1 (by omega) hx
   refine ⟨r, i', s', Ev.unroll ?_, h⟩
   simp only [spec_l5Draw.l0, e1, some_bind, wrap_sc (show id < 9223372036854775807 by omega)]
   exact Ev.ifp (by omega) (Ev.ifp trivial er)
  | false =>
   obtain ⟨r, i', s', er, h⟩ := l5Draw_l1_ok b hb id (by omega) (fun l i s h1 h2 h3 => ih (id + 1) i s l (by omega) h1 h2 h3) 5 1 i1 s1 (wrap64 ((id : Int) * 10)) (wrap64 (20 - (id : Int))) l [] (by omega) hi1 hl hx (by simp)
   refine ⟨r, i', s', Ev.unroll ?_, h⟩
   simp only [spec_l5Draw.l0, e1, some_bind]
   exact Ev.ifp (by omega) (Ev.ifn (by decide) er)
theorem l5Draw_ok (b : List Int) (hb : b.length ≤ 1048576) (i s : Int) (hi : 0 ≤ i) : ∃ (r : List S79) (i' s' : Int), Ev (fun k => spec_l5Draw.f k b i s) (r, i', s') ∧ 0 ≤ i' ∧ r.length ≤ 10 ∧ ∀ x ∈ r, x.f2.length ≤ 10 :=
 l5Draw_l0_ok b hb 5 1 i s [] (by omega) hi (by simp) (by simp)
theorem l5Bend_ok (b : List Int) (hb : b.length ≤ 1048576) (i s : Int) (hi : 0 ≤ i) (l : List S79) (hl : l.length ≤ 10) (hx : ∀ x ∈ l, x.f2.length ≤ 10) : ∃ (r : List S79) (i' s' : Int), Ev (fun k => spec_l5Bend.f k b i s l) (r, i', s') ∧ 0 ≤ i' ∧ SmS r := by
 have hc := spec_l5Copy_f l (by omega) (fun x h => by have := hx x h; omega)
 have h0 : SmS l := ⟨by omega, fun x h => by have := hx x h; omega⟩
 unfold spec_l5Bend.f
 by_cases c0 : (l.length : Int) = 0
 ·exact ⟨l, i, s, Ev.bind hc (Ev.ifp c0 (Ev.now _)), hi, h0⟩
 ·obtain ⟨x, i1, s1, e1, hi1, x0, x1, _⟩ := l1Below_ok b i s (l.length : Int) hi hb
  have x1 := x1 (by omega)
  obtain ⟨y, i2, s2, e2, hi2, y0, y1, _⟩ := l1Below_ok b i1 s1 6 hi1 hb
  have er : (rd_T79 l x).f2.length ≤ 10 := by
   unfold rd_T79
   rw [getD_at (show x.toNat < l.length by omega)]
   exact hx _ (List.getElem_mem _)
  have st : ∀ p : S79, p.f2.length ≤ 100 → SmS (l.set x.toNat p) := fun p hp => ⟨by rw [List.length_set]; omega, fun z hz => by
   rcases List.mem_or_eq_of_mem_set hz with h | rfl
   ·exact h0.2 z h
   ·exact hp⟩
  by_cases c1 : y = 0
  ·obtain ⟨z, i3, s3, e3, hi3, _⟩ := l1Int_ok b i2 s2 [0, 1000, 10] hi2 hb (by simp) (by simp)
   refine ⟨_, i3, s3, Ev.bind hc (Ev.ifn c0 ?_), hi3, st ⟨z, (rd_T79 l x).f1, (rd_T79 l x).f2⟩ (by show (rd_T79 l x).f2.length ≤ 100; omega)⟩
   simp only [e1, e2, some_bind]
   refine Ev.ifp c1 ?_
   simp only [e3, some_bind]
   exact Ev.ifp x0 (Ev.ifp x1 (Ev.now _))
  ·by_cases c2 : y = 1
   ·obtain ⟨z, i3, s3, e3, hi3, _⟩ := l1Int_ok b i2 s2 [(-1), 100, 19] hi2 hb (by simp) (by simp)
    refine ⟨_, i3, s3, Ev.bind hc (Ev.ifn c0 ?_), hi3, st ⟨(rd_T79 l x).f0, z, (rd_T79 l x).f2⟩ (by show (rd_T79 l x).f2.length ≤ 100; omega)⟩
    simp only [e1, e2, some_bind]
    refine Ev.ifn c1 (Ev.ifp c2 ?_)
    simp only [e3, some_bind]
    exact Ev.ifp x0 (Ev.ifp x1 (Ev.now _))
   ·by_cases c3 : y = 2
    ·obtain ⟨z, i3, s3, e3, hi3, _⟩ := l1Int_ok b i2 s2 [0, 1, 1001] hi2 hb (by simp) (by simp)
     obtain ⟨u, i4, s4, e4, hi4, _⟩ := l1Below_ok b i3 s3 3 hi3 hb
     refine ⟨_, i4, s4, Ev.bind hc (Ev.ifn c0 ?_), hi4, st ⟨(rd_T79 l x).f0, (rd_T79 l x).f1, (rd_T79 l x).f2 ++ [⟨9, z, u⟩]⟩ (by show ((rd_T79 l x).f2 ++ [_]).length ≤ 100; simp; omega)⟩
     simp only [e1, e2, some_bind]
     refine Ev.ifn c1 (Ev.ifn c2 (Ev.ifp c3 (Ev.ifp x0 (Ev.ifp x1 ?_))))
     simp only [e3, e4, some_bind]
     exact Ev.ifp (by omega) (Ev.now _)
    ·by_cases c4 : y = 3
     ·refine ⟨l ++ [⟨(rd_T79 l 0).f0, (rd_T79 l 0).f1, (rd_T79 l 0).f2⟩], i2, s2, Ev.bind hc (Ev.ifn c0 ?_), hi2, by simp; omega, fun z hz => ?_⟩
      ·simp only [e1, e2, some_bind]
       exact Ev.ifn c1 (Ev.ifn c2 (Ev.ifn c3 (Ev.ifp c4 (Ev.ifp (by omega) (Ev.ifp (by omega) (Ev.now _))))))
      ·rcases List.mem_append.1 hz with h | h
       ·exact h0.2 z h
       ·have : z = ⟨(rd_T79 l 0).f0, (rd_T79 l 0).f1, (rd_T79 l 0).f2⟩ := by simpa using h
        subst this
        show (rd_T79 l 0).f2.length ≤ 100
        unfold rd_T79
        rw [getD_at (show (0 : Int).toNat < l.length by simp; omega)]
        exact h0.2 _ (List.getElem_mem _)
     ·refine ⟨l, i2, s2, Ev.bind hc (Ev.ifn c0 ?_), hi2, h0⟩
      simp only [e1, e2, some_bind]
      exact Ev.ifn c1 (Ev.ifn c2 (Ev.ifn c3 (Ev.ifn c4 (Ev.now _))))
theorem l5DrawAny_ok (b : List Int) (hb : b.length ≤ 1048576) (i s : Int) (hi : 0 ≤ i) : ∃ (r : List S79) (i' s' : Int), Ev (fun k => spec_l5DrawAny.f k b i s) (r, i', s') ∧ 0 ≤ i' ∧ SmS r := by
 unfold spec_l5DrawAny.f
 obtain ⟨l, i1, s1, e1, hi1, hl, hx⟩ := l5Draw_ok b hb i s hi
 obtain ⟨y, i2, s2, e2, hi2⟩ := l1Once_ok b i1 s1 8 hi1 hb
 cases y with
 | true =>
  obtain ⟨r, i3, s3, e3, hi3, h3⟩ := l5Bend_ok b hb i2 s2 hi2 l hl hx
  refine ⟨r, i3, s3, Ev.bind e1 ?_, hi3, h3⟩
  simp only [e2, some_bind]
  exact Ev.ifp trivial (Ev.bind e3 (Ev.now _))
 | false =>
  refine ⟨l, i2, s2, Ev.bind e1 ?_, hi2, by omega, fun x h => by have := hx x h; omega⟩
  simp only [e2, some_bind]
  exact Ev.ifn (by decide) (Ev.now _)
theorem sameStock_f (l : List S79) (h : BigS l) : Ev (fun k => laws_sameStock.f k l l) true := by
 have inner : ∀ (i : Nat), i < l.length → (Ev (fun k => laws_sameStock.l0 k ((i + 1 : Nat) : Int) l l) true) → ∀ (d j : Nat) (p0 p1 q0 q1 : Int) (st : List S72), j + d = st.length → st.length ≤ 4194304 → Ev (fun k => laws_sameStock.l1 k i j l l p0 p1 st q0 q1 st) true := by
  intro i hi K d
  induction d with
  | zero =>
   intro j p0 p1 q0 q1 st e hst
   refine Ev.unroll ?_
   simp only [laws_sameStock.l1, wrap_sc (show i < 9223372036854775807 by have := h.1; omega)]
   exact Ev.ifn (by omega) K
  | succ d ih =>
   intro j p0 p1 q0 q1 st e hst
   refine Ev.unroll ?_
   simp only [laws_sameStock.l1, wrap_sc (show j < 9223372036854775807 by omega), beq_self_eq_true, Bool.not_true, Bool.or_self]
   exact Ev.ifp (by omega) (Ev.ifp (by omega) (Ev.ifp (by omega) (Ev.ifn (by decide) (ih (j + 1) p0 p1 q0 q1 st (by omega) hst))))
 have outer : ∀ (d i : Nat), i + d = l.length → Ev (fun k => laws_sameStock.l0 k i l l) true := by
  intro d
  induction d with
  | zero =>
   intro i e
   refine Ev.unroll ?_
   simp only [laws_sameStock.l0]
   exact Ev.ifn (by omega) (Ev.now _)
  | succ d ih =>
   intro i e
   have hi : i < l.length := by omega
   have hb : (podAtN l i).f2.length ≤ 4194304 := by unfold podAtN; rw [getD_at hi]; exact h.2 _ (List.getElem_mem hi)
   refine Ev.unroll ?_
   simp only [laws_sameStock.l0, rd_pod]
   refine Ev.ifp (by omega) (Ev.ifp (by omega) (Ev.ifp (by omega) (Ev.ifp (by trivial) (Ev.ifp (by trivial) (Ev.unroll ?_)))))
   simp only [laws_sameStock.j1, bne_self_eq_false]
   exact Ev.ifn (by decide) (inner i hi (ih (i + 1) (by omega)) _ 0 _ _ _ _ _ (by rw [Nat.zero_add]) hb)
 unfold laws_sameStock.f
 exact Ev.ifp rfl (outer l.length 0 (by omega))
theorem l6Items_ok (b : List Int) (hb : b.length ≤ 1048576) (i s : Int) (hi : 0 ≤ i) : ∃ (r : List S48) (i' s' : Int), Ev (fun k => spec_l6Items.f k b i s) (r, i', s') ∧ 0 ≤ i' ∧ r.length ≤ 10 := by
 have key : ∀ (d j : Nat) (i s : Int) (l : List S48), j + d = 6 → 0 ≤ i → l.length ≤ j → ∃ (r : List S48) (i' s' : Int), Ev (fun k => spec_l6Items.l0 k l j b i s) (r, i', s') ∧ 0 ≤ i' ∧ r.length ≤ 10 := by
  intro d
  induction d with
  | zero =>
   intro j i s l e hi hl
   refine ⟨l, i, s, Ev.unroll ?_, hi, by omega⟩
   simp only [spec_l6Items.l0]
   exact Ev.ifn (by omega) (Ev.now _)
  | succ d ih =>
   intro j i s l e hi hl
   obtain ⟨y, i1, s1, e1, hi1⟩ := l1Once_ok b i s 4 hi hb
   cases y with
   | true =>
    obtain ⟨v, i2, s2, e2, hi2, _⟩ := l1Int_ok b i1 s1 [1, 1, 1, 2, 3, 9] hi1 hb (by simp) (by simp)
    obtain ⟨r, i', s', er, h⟩ := ih (j + 1) i2 s2 (l ++ [⟨(j : Int), v⟩]) (by omega) hi2 (by simp; omega)
    refine ⟨r, i', s', Ev.unroll ?_, h⟩
    simp only [spec_l6Items.l0, e1, e2, some_bind, wrap_sc (show j < 9223372036854775807 by omega)]
    exact Ev.ifp (by omega) (Ev.ifp trivial (Ev.ifp (by omega) er))
   | false =>
    obtain ⟨r, i', s', er, h⟩ := ih (j + 1) i1 s1 l (by omega) hi1 (by omega)
    refine ⟨r, i', s', Ev.unroll ?_, h⟩
    simp only [spec_l6Items.l0, e1, some_bind, wrap_sc (show j < 9223372036854775807 by omega)]
    exact Ev.ifp (by omega) (Ev.ifn (by decide) er)
 exact key 5 1 i s [] (by omega) hi (by simp)
theorem impl_hasInt_l0 (xs : List Int) (x : Int) (hn : xs.length ≤ BIG) : ∀ (d i : Nat), i + d = xs.length → Ev (fun k => impl_hasInt.l0 k x xs xs.length i) ((xs.drop i).contains x)
 | 0, i, h => Ev.unroll (by
   simp only [impl_hasInt.l0]
   simp only [if_neg (show ¬ (i : Int) < xs.length by omega)]
   exact Ev.fin (by rw [drop_end (by omega)]; rfl))
 | d + 1, i, h => Ev.unroll (by
   have hi : i < xs.length := by omega
   simp only [impl_hasInt.l0]
   simp only [if_pos (show (i : Int) < xs.length by omega), if_pos (show (0 : Int) ≤ i by omega), wrap_succ hi hn, rd_nat hi]
   rw [drop_cons hi, List.contains_cons]
   by_cases h1 : xs[i] = x
   ·simp only [if_pos h1]
    exact Ev.fin (by rw [h1]; simp)
   ·simp only [if_neg h1]
    rw [show (x == xs[i]) = false by simpa using fun e => h1 e.symm, Bool.false_or]
    exact impl_hasInt_l0 xs x hn d (i + 1) (by omega))
theorem impl_hasInt_f (xs : List Int) (x : Int) (hn : xs.length ≤ BIG) : Ev (fun k => impl_hasInt.f k xs x) (xs.contains x) := impl_hasInt_l0 xs x hn xs.length 0 (by omega)

def podsStep (acc : List Int) (p : S50) : List Int := if acc.contains p.f0 then acc else acc ++ [p.f0]
def podsOf (xs : List S50) : List Int := xs.foldl podsStep []
theorem podsStep_le (acc : List Int) (p : S50) : (podsStep acc p).length ≤ acc.length + 1 := by unfold podsStep; split <;> simp
theorem podsOf_le (xs : List S50) : ∀ acc : List Int, (xs.foldl podsStep acc).length ≤ acc.length + xs.length := by
 induction xs with
 | nil => intro acc; simp
 | cons x xs ih =>
  intro acc
  have h1 := ih (podsStep acc x)
  have h2 := podsStep_le acc x
  simp only [List.foldl_cons, List.length_cons]
  omega
theorem impl_PodsOf_l0 (xs : List S50) (hn : xs.length ≤ 1048576) : ∀ (d i : Nat) (acc : List Int), i + d = xs.length → acc.length ≤ i → Ev (fun k => impl_PodsOf.l0 k acc xs xs.length i) ((xs.drop i).foldl podsStep acc)
 | 0, i, acc, h, ha => Ev.unroll (by
   simp only [impl_PodsOf.l0]
   simp only [if_neg (show ¬ (i : Int) < xs.length by omega)]
   exact Ev.fin (by rw [drop_end (by omega)]; rfl))
 | d + 1, i, acc, h, ha => Ev.unroll (by
   have hi : i < xs.length := by omega
   simp only [impl_PodsOf.l0]
   simp only [if_pos (show (i : Int) < xs.length by omega), if_pos (show (0 : Int) ≤ i by omega), wrap_succ hi (show _ ≤ BIG by unfold BIG; omega), rd_T50, Int.toNat_natCast, getD_at hi]
   rw [drop_cons hi, List.foldl_cons]
   refine Ev.bind (impl_hasInt_f acc _ (by unfold BIG; omega)) ?_
   by_cases h1 : acc.contains xs[i].f0 = true
   ·simp only [if_pos h1]
    rw [show podsStep acc xs[i] = acc by unfold podsStep; rw [if_pos h1]]
    exact impl_PodsOf_l0 xs hn d (i + 1) acc (by omega) (by omega)
   ·simp only [if_neg h1, if_pos (show acc.length < 17592186044416 by omega)]
    rw [show podsStep acc xs[i] = acc ++ [xs[i].f0] by unfold podsStep; rw [if_neg h1]]
    exact impl_PodsOf_l0 xs hn d (i + 1) _ (by omega) (by simp; omega))
theorem impl_PodsOf_f (xs : List S50) (hn : xs.length ≤ 1048576) : Ev (fun k => impl_PodsOf.f k xs) (podsOf xs) := impl_PodsOf_l0 xs hn xs.length 0 [] (by omega) (by simp)

theorem podsStep_mem (acc : List Int) (p : S50) (x : Int) : x ∈ podsStep acc p ↔ x ∈ acc ∨ x = p.f0 := by
 unfold podsStep
 split
 ·rename_i h
  rw [List.contains_iff_mem] at h
  constructor
  ·exact .inl
  ·rintro (h2 | rfl)
   ·exact h2
   ·exact h
 ·simp
theorem pods_mem : ∀ (xs : List S50) (acc : List Int) (x : Int), x ∈ xs.foldl podsStep acc ↔ x ∈ acc ∨ ∃ p ∈ xs, p.f0 = x
 | [], acc, x => by simp
 | p :: t, acc, x => by
  rw [List.foldl_cons, pods_mem t, podsStep_mem]
  constructor
  ·rintro ((h | rfl) | ⟨q, hq, rfl⟩)
   ·exact .inl h
   ·exact .inr ⟨p, List.mem_cons_self, rfl⟩
   ·exact .inr ⟨q, List.mem_cons_of_mem _ hq, rfl⟩
  ·rintro (h | ⟨q, hq, rfl⟩)
   ·exact .inl (.inl h)
   ·rcases List.mem_cons.1 hq with rfl | hq
    ·exact .inl (.inr rfl)
    ·exact .inr ⟨q, hq, rfl⟩
theorem pods_nodup : ∀ (xs : List S50) (acc : List Int), acc.Nodup → (xs.foldl podsStep acc).Nodup
 | [], acc, h => h
 | p :: t, acc, h => by
  rw [List.foldl_cons]
  refine pods_nodup t _ ?_
  unfold podsStep
  split
  ·exact h
  ·rename_i hc
   rw [List.contains_iff_mem] at hc
   rw [List.nodup_append]
   exact ⟨h, by simp, fun a ha b hb => by
    have : b = p.f0 := by simpa using hb
    subst this
    rintro rfl
    exact hc ha⟩
def av (p : S79) (sku : Int) : Int := (stackOf p.f2 sku).f1 - (stackOf p.f2 sku).f2
def tak (p : S79) (it : S48) : Int := if av p it.f0 < it.f1 then av p it.f0 else it.f1
def couldL (p : S79) : List S48 → List S50
 | [] => []
 | it :: t => if 0 < tak p it then ⟨p.f0, it.f0, tak p it⟩ :: couldL p t else couldL p t
def couldN (p : S79) : List S48 → Int
 | [] => 0
 | it :: t => if 0 < tak p it then tak p it + couldN p t else couldN p t
structure Left (l : List S48) : Prop where
 len : l.length ≤ 6
 num : ∀ x ∈ l, 1 ≤ x.f0 ∧ x.f0 ≤ 50 ∧ 0 ≤ x.f1 ∧ x.f1 ≤ 1000
 ord : l.Pairwise (fun a b => a.f0 < b.f0)
theorem Left.tail {x : S48} {l : List S48} (h : Left (x :: l)) : Left l := ⟨by have := h.len; simp at this; omega, fun y hy => h.num y (List.mem_cons_of_mem _ hy), (List.pairwise_cons.1 h.ord).2⟩
theorem rd_item {l : List S48} {i : Nat} (hi : i < l.length) : rd_T48 l (i : Int) = l[i] := rd_struct_at hi
theorem couldL_len (p : S79) : ∀ l : List S48, (couldL p l).length ≤ l.length
 | [] => by simp [couldL]
 | it :: t => by
  have := couldL_len p t
  unfold couldL
  split <;> simp only [List.length_cons] <;> omega
theorem couldN_bounds {p : S79} : ∀ {l : List S48}, Left l → 0 ≤ couldN p l ∧ couldN p l ≤ 1000 * (l.length : Int)
 | [], _ => by simp [couldN]
 | it :: t, h => by
  have ih := couldN_bounds (p := p) h.tail
  have hn := h.num it List.mem_cons_self
  unfold couldN
  have : tak p it ≤ it.f1 := by unfold tak; split <;> omega
  split <;> simp only [List.length_cons] <;> omega
theorem spec_l6Could_f (p : S79) (l : List S48) (hl : Left l) (hp : stacksOk p.f2 = true) (h8 : p.f2.length ≤ 8) : Ev (fun k => spec_l6Could.f k p.f0 p.f1 p.f2 l) (couldL p l, couldN p l) := by
 have key : ∀ (d i : Nat) (acc : List S50) (n : Int), i + d = l.length → acc.length ≤ i → 0 ≤ n → n ≤ 1000 * (i : Int) → Ev (fun k => spec_l6Could.l0 k l acc n i p.f0 p.f1 p.f2) (acc ++ couldL p (l.drop i), n + couldN p (l.drop i)) := by
  intro d
  induction d with
  | zero =>
   intro i acc n e ha h0 h1
   refine Ev.unroll ?_
   simp only [spec_l6Could.l0]
   rw [drop_end (by omega)]
   exact Ev.ifn (by omega) (Ev.fin (by simp [couldL, couldN]))
  | succ d ih =>
   intro i acc n e ha h0 h1
   have hi : i < l.length := by omega
   have h6 := hl.len
   have hn := hl.num l[i] (List.getElem_mem hi)
   have hb := stackOf_bounds hp l[i].f0
   have hs := spec_l5Stack_f p.f0 p.f1 p.f2 l[i].f0 (by omega)
   have ea : wrap64 ((stackOf p.f2 l[i].f0).f1 - (stackOf p.f2 l[i].f0).f2) = av p l[i].f0 := wrap_id (by omega) (by omega)
   have ht : tak p l[i] ≤ 1000 := by unfold tak; split <;> omega
   have ih1 := ih (i + 1) acc n (by omega) (by omega) (by omega) (by omega)
   have ih2 := fun h : 0 < tak p l[i] => ih (i + 1) (acc ++ [⟨p.f0, l[i].f0, tak p l[i]⟩]) (n + tak p l[i]) (by omega) (by simp; omega) (by omega) (by omega)
   refine Ev.unroll ?_
   simp only [spec_l6Could.l0, rd_item hi, wrap_sc (show i < 9223372036854775807 by omega)]
   rw [drop_cons hi, couldL, couldN]
   refine Ev.ifp (by omega) (Ev.ifp (by omega) (Ev.bind hs ?_))
   simp only [ea]
   by_cases c : l[i].f1 < av p l[i].f0
   ·have et : tak p l[i] = l[i].f1 := by unfold tak; rw [if_neg (by omega)]
    rw [et] at ih2 ⊢
    refine Ev.ifp c ?_
    by_cases c2 : 0 < l[i].f1
    ·rw [if_pos c2, if_pos c2]
     have h3 := ih2 c2
     rw [List.append_assoc, Int.add_assoc] at h3
     rw [wrap_id (x := n + l[i].f1) (by omega) (by omega)]
     exact Ev.ifp c2 (Ev.ifp (by omega) h3)
    ·rw [if_neg c2, if_neg c2]; exact Ev.ifn c2 ih1
   ·have et : tak p l[i] = av p l[i].f0 := by unfold tak; split <;> omega
    rw [et] at ih2 ⊢
    refine Ev.ifn c ?_
    by_cases c2 : 0 < av p l[i].f0
    ·rw [if_pos c2, if_pos c2]
     have h3 := ih2 c2
     rw [List.append_assoc, Int.add_assoc] at h3
     rw [wrap_id (x := n + av p l[i].f0) (by omega) (by omega)]
     exact Ev.ifp c2 (Ev.ifp (by omega) h3)
    ·rw [if_neg c2, if_neg c2]; exact Ev.ifn c2 ih1
 have h := key l.length 0 [] 0 (by omega) (by simp) (by omega) (by omega)
 rw [List.drop_zero, List.nil_append, Int.zero_add] at h
 exact h
def offOf (p : S79) (it : S48) : Int := if 0 < tak p it then tak p it else 0
def dec (p : S79) (it : S48) : S48 := ⟨it.f0, it.f1 - offOf p it⟩
def nz (l : List S48) : List S48 := l.filter (fun it => decide (0 < it.f1))
theorem off_bounds {p : S79} {it : S48} (h : 0 ≤ it.f1) : 0 ≤ offOf p it ∧ offOf p it ≤ it.f1 := by
 unfold offOf tak
 split <;> split at * <;> omega
theorem Left.nz {l : List S48} (h : Left l) : Left (nz l) := by
 have hs : (Pure.nz l).Sublist l := List.filter_sublist
 exact ⟨by have := hs.length_le; have := h.len; omega, fun x hx => h.num x (hs.subset hx), h.ord.sublist hs⟩
theorem Left.dec {l : List S48} (p : S79) (h : Left l) : Left (l.map (dec p)) := by
 refine ⟨by rw [List.length_map]; exact h.len, fun x hx => ?_, ?_⟩
 ·obtain ⟨y, hy, rfl⟩ := List.mem_map.1 hx
  have := h.num y hy
  have hb := off_bounds (p := p) this.2.2.1
  show 1 ≤ y.f0 ∧ y.f0 ≤ 50 ∧ 0 ≤ y.f1 - offOf p y ∧ y.f1 - offOf p y ≤ 1000
  omega
 ·exact List.pairwise_map.2 (h.ord.imp (fun {a b} hab => hab))
def same : List S50 → Int → Int
 | [], _ => 0
 | q :: t, k => (if q.f1 = k then q.f2 else 0) + same t k
theorem same_none (p : S79) (k : Int) : ∀ {l : List S48}, (∀ x ∈ l, x.f0 ≠ k) → same (couldL p l) k = 0
 | [], _ => rfl
 | it :: t, h => by
  have ih := same_none p k (l := t) (fun x hx => h x (List.mem_cons_of_mem _ hx))
  unfold couldL
  split
  ·rw [same, if_neg (h it List.mem_cons_self), ih]; rfl
  ·exact ih
theorem same_off (p : S79) : ∀ {l : List S48}, Left l → ∀ it ∈ l, same (couldL p l) it.f0 = offOf p it
 | [], _, _, h => by simp at h
 | x :: t, h, it, hit => by
  have hlt := (List.pairwise_cons.1 h.ord).1
  rcases List.mem_cons.1 hit with rfl | hit
  ·have h0 := same_none p it.f0 (l := t) (fun y hy => by have := hlt y hy; omega)
   unfold couldL offOf
   split
   ·rw [same, if_pos rfl, h0]; exact Int.add_zero _
   ·exact h0
  ·have ih := same_off p h.tail it hit
   have hne : ¬ x.f0 = it.f0 := by have := hlt it hit; omega
   unfold couldL
   split
   ·rw [same, if_neg hne, ih]; omega
   ·exact ih
structure PicksOk (ps : List S50) : Prop where
 len : ps.length ≤ 6
 num : ∀ q ∈ ps, 1 ≤ q.f2 ∧ q.f2 ≤ 1000
theorem couldL_ok (p : S79) {l : List S48} (h : Left l) : PicksOk (couldL p l) := by
 refine ⟨by have := couldL_len p l; have := h.len; omega, fun q hq => ?_⟩
 have key : ∀ {l : List S48}, Left l → ∀ q ∈ couldL p l, 1 ≤ q.f2 ∧ q.f2 ≤ 1000 := by
  intro l
  induction l with
  | nil => intro _ q hq; simp [couldL] at hq
  | cons it t ih =>
   intro h q hq
   have hn := h.num it List.mem_cons_self
   unfold couldL at hq
   split at hq
   ·rcases List.mem_cons.1 hq with rfl | hq
    ·have : tak p it ≤ it.f1 := by unfold tak; split <;> omega
     show 1 ≤ tak p it ∧ tak p it ≤ 1000
     omega
    ·exact ih h.tail q hq
   ·exact ih h.tail q hq
 exact key h q hq
theorem rd_pick {l : List S50} {i : Nat} (hi : i < l.length) : rd_T50 l (i : Int) = l[i] := rd_struct_at hi
def itemAt (xs : List S48) (j : Nat) : Bool :=
 inB (xs.getD j z48).f0 1 50 && inB (xs.getD j z48).f1 1 1000 && (j == 0 || decide ((xs.getD (j - 1) z48).f0 < (xs.getD j z48).f0))
theorem spec_ItemsOk_l0 (xs : List S48) (hn : xs.length ≤ 1048576) : ∀ (d i : Nat), i + d = xs.length → Ev (fun k => spec_ItemsOk.l0 k xs i) (allFrom xs.length i (itemAt xs) && decide (xs.length ≤ 6))
 | 0, i, h => Ev.unroll (by
   simp only [spec_ItemsOk.l0]
   simp only [if_neg (show ¬ (i : Int) < xs.length by omega)]
   exact Ev.fin (by rw [allFrom_end (by omega), Bool.true_and]; exact decide_eq_decide.2 (by omega)))
 | d + 1, i, h => Ev.unroll (by
   have hi : i < xs.length := by omega
   have ih := spec_ItemsOk_l0 xs hn d (i + 1) (by omega)
   simp only [spec_ItemsOk.l0, spec_l1In_f, some_bind]
   simp only [if_pos (show (i : Int) < xs.length by omega), if_pos (show (0 : Int) ≤ i by omega), wrap_succ hi (show _ ≤ BIG by unfold BIG; omega), rd_T48, Int.toNat_natCast]
   by_cases h1 : inB (xs.getD i z48).f0 1 50 = true
   ·simp only [if_pos h1]
    by_cases h2 : inB (xs.getD i z48).f1 1 1000 = true
    ·simp only [if_pos h2]
     by_cases h3 : 0 < i
     ·simp only [if_pos (show (i : Int) > 0 by omega), wrap_pred hi h3 (show _ ≤ BIG by unfold BIG; omega), if_pos (show (0 : Int) ≤ ((i - 1 : Nat) : Int) by omega), if_pos (show ((i - 1 : Nat) : Int) < xs.length by omega), Int.toNat_natCast]
      by_cases h4 : (xs.getD (i - 1) z48).f0 ≥ (xs.getD i z48).f0
      ·simp only [if_pos h4]
       exact Ev.fin (by rw [allFrom_no hi (by unfold itemAt; rw [decide_eq_false (show ¬ (xs.getD (i - 1) z48).f0 < (xs.getD i z48).f0 by omega)]; simp [show i ≠ 0 by omega])]; rfl)
      ·simp only [if_neg h4]
       rw [allFrom_yes hi (by unfold itemAt; simp only [h1, h2, decide_eq_true (show (xs.getD (i - 1) z48).f0 < (xs.getD i z48).f0 by omega), Bool.or_true, Bool.and_true])]
       exact ih
     ·simp only [if_neg (show ¬ (i : Int) > 0 by omega)]
      rw [allFrom_yes hi (by have e0 : i = 0 := (by omega); subst e0; unfold itemAt; rw [h1, h2]; rfl)]
      exact ih
    ·simp only [if_neg h2]
     exact Ev.fin (by rw [allFrom_no hi (by rw [Bool.not_eq_true] at h2; unfold itemAt; rw [h2]; simp)]; rfl)
   ·simp only [if_neg h1]
    exact Ev.fin (by rw [allFrom_no hi (by rw [Bool.not_eq_true] at h1; unfold itemAt; rw [h1]; simp)]; rfl))
def itemsOk (xs : List S48) : Bool := allFrom xs.length 0 (itemAt xs) && decide (xs.length ≤ 6)
theorem spec_ItemsOk_f (xs : List S48) (hn : xs.length ≤ 1048576) : Ev (fun k => spec_ItemsOk.f k xs) (itemsOk xs) := spec_ItemsOk_l0 xs hn xs.length 0 (by omega)
def sumL : List S48 → Int
 | [] => 0
 | it :: t => it.f1 + sumL t
structure Pair (s s' : List S79) (used : List Bool) (left : List S48) : Prop where
 ok : stockOk s = true
 ok' : stockOk s' = true
 len : s'.length = s.length
 ulen : used.length = s.length
 lft : Left left
 free : ∀ i : Nat, i < s.length → used.getD i false = false → podAtN s' i = podAtN s i
 done : ∀ i : Nat, i < s.length → used.getD i false = true → couldN (podAtN s' i) left = 0
theorem couldN_zero {p : S79} : ∀ {l : List S48}, Left l → (couldN p l = 0 ↔ ∀ it ∈ l, ¬ 0 < tak p it)
 | [], _ => by simp [couldN]
 | it :: t, h => by
  have ih := couldN_zero (p := p) h.tail
  have hb := couldN_bounds (p := p) h.tail
  unfold couldN
  by_cases c : 0 < tak p it
  ·rw [if_pos c]
   constructor
   ·intro h; omega
   ·intro h; exact absurd c (h it List.mem_cons_self)
  ·rw [if_neg c, ih]
   constructor
   ·intro h x hx
    rcases List.mem_cons.1 hx with rfl | hx
    ·exact c
    ·exact h x hx
   ·intro h x hx; exact h x (List.mem_cons_of_mem _ hx)
theorem couldN_less {p q : S79} {l : List S48} (h : Left l) (h0 : couldN p l = 0) : couldN p (l.map (dec q)) = 0 := by
 rw [couldN_zero (h.dec q)]
 intro x hx
 obtain ⟨y, hy, rfl⟩ := List.mem_map.1 hx
 have h1 := (couldN_zero h).1 h0 y hy
 have hb := off_bounds (p := q) (h.num y hy).2.2.1
 unfold tak at h1 ⊢
 show ¬ 0 < (if av p y.f0 < y.f1 - offOf q y then av p y.f0 else y.f1 - offOf q y)
 split <;> split at h1 <;> omega
theorem couldN_held {p p' : S79} {l : List S48} (h : Left l) (ha : ∀ it ∈ l, av p' it.f0 = av p it.f0 - offOf p it) : couldN p' (l.map (dec p)) = 0 := by
 rw [couldN_zero (h.dec p)]
 intro x hx
 obtain ⟨y, hy, rfl⟩ := List.mem_map.1 hx
 have h1 := ha y hy
 unfold tak
 show ¬ 0 < (if av p' y.f0 < y.f1 - offOf p y then av p' y.f0 else y.f1 - offOf p y)
 rw [h1]
 unfold offOf tak
 split <;> split <;> (try split) <;> (try split) <;> omega
theorem Pair.step {s s' s2 : List S79} {used : List Bool} {left : List S48} (P : Pair s s' used left) {b : Nat} (hb : b < s.length) (hu : used.getD b false = false)
  (g2 : stockOk s2 = true) (g3 : s2.length = s'.length) (g4 : ∀ i, i ≠ b → podAtN s2 i = podAtN s' i) (g6 : ∀ it ∈ left, av (podAtN s2 b) it.f0 = av (podAtN s b) it.f0 - offOf (podAtN s b) it) : Pair s s2 (used.set b true) (left.map (dec (podAtN s b))) := by
 have us : ∀ i : Nat, (used.set b true).getD i false = if i = b then true else used.getD i false := fun i => by
  have := P.ulen
  rw [List.getD_eq_getElem?_getD, List.getElem?_set, List.getD_eq_getElem?_getD]
  by_cases e : i = b
  ·subst e; simp [this, hb]
  ·rw [if_neg (fun h => e h.symm), if_neg e]
 refine ⟨P.ok, g2, by rw [g3, P.len], by rw [List.length_set]; exact P.ulen, P.lft.dec _, fun i hi h => ?_, fun i hi h => ?_⟩
 ·rw [us] at h
  by_cases e : i = b
  ·rw [if_pos e] at h; cases h
  ·rw [if_neg e] at h; rw [g4 i e]; exact P.free i hi h
 ·rw [us] at h
  by_cases e : i = b
  ·subst e; exact couldN_held P.lft g6
  ·rw [if_neg e] at h; rw [g4 i e]; exact couldN_less P.lft (P.done i hi h)
theorem impl_eachHold_l0 (s : List S79) (hs : BigS s) (p : List S50) (hp : p.length ≤ 1048576) : ∀ (d i : Nat) (out : List S79), i + d = p.length → BigS out → Ev (fun k => impl_eachHold.l0 k s p i out) (eachOf (opOf 1) s (p.drop i) out)
 | 0, i, out, e, h => Ev.unroll (by
   simp only [impl_eachHold.l0]
   rw [drop_end (by omega)]
   exact Ev.ifn (by omega) (Ev.now _))
 | d + 1, i, out, e, h => by
   have hi : i < p.length := by omega
   have er : rd_T50 p i = p[i] := rd_struct_at hi
   have ih := impl_eachHold_l0 s hs p hp d (i + 1) (opOf 1 out p[i].f0 p[i].f1 p[i].f2).1 (by omega) (opOf_big 1 out _ _ _ h)
   refine Ev.unroll ?_
   simp only [impl_eachHold.l0, er, wrap_sc (show i < 9223372036854775807 by omega)]
   rw [drop_cons hi, eachOf]
   have e1 : opOf 1 out p[i].f0 p[i].f1 p[i].f2 = heldOf out p[i].f0 p[i].f1 p[i].f2 p[i].f2 := by unfold opOf; rw [if_pos rfl]
   rw [e1] at ih ⊢
   refine Ev.ifp (by omega) (Ev.ifp (by omega) (Ev.bind (impl_Hold_f out _ _ _ h.1 h.2) ?_))
   by_cases h0 : (heldOf out p[i].f0 p[i].f1 p[i].f2 p[i].f2).2 = 0
   ·rw [if_pos h0]; exact Ev.ifp h0 ih
   ·rw [if_neg h0]; exact Ev.ifn h0 (Ev.bind (impl_copyStock_f s hs.1 hs.2) (Ev.now _))
theorem impl_HoldAll_f (s : List S79) (hs : BigS s) (p : List S50) (hp : p.length ≤ 1048576) : Ev (fun k => impl_HoldAll.f k s p) (eachOf (opOf 1) s p s) := by
 unfold impl_HoldAll.f impl_eachHold.f
 exact Ev.bind (impl_copyStock_f s hs.1 hs.2) (impl_eachHold_l0 s hs p hp p.length 0 s (by omega) hs)
theorem spec_HoldAll_f (s : List S79) (hs : BigS s) (p : List S50) (hp : p.length ≤ 1048576) : Ev (fun k => spec_HoldAll.f k s p) (eachOf (opOf 1) s p s) := by
 unfold spec_HoldAll.f
 exact Ev.bind (spec_l6Each_f s hs p hp 1) (Ev.now _)

def sub (q : S50) (it : S48) : S48 := if it.f0 = q.f1 then ⟨it.f0, it.f1 - q.f2⟩ else it
theorem spec_Picks_l4 (s : List S79) (used : List Bool) (acc none ps : List S50) (j : Nat) (hj : j < ps.length) (hq : 1 ≤ ps[j].f2 ∧ ps[j].f2 ≤ 1000) (hps : ps.length ≤ 6) (xs : List S48) (hl : xs.length ≤ 6) (hx : ∀ x ∈ xs, -10000 ≤ x.f1 ∧ x.f1 ≤ 1000) (R : List S50 × Bool)
  (hR : Ev (fun k => spec_Picks.l3 k none (xs.map (sub ps[j])) used acc ps ((j + 1 : Nat) : Int) s) R) : ∀ (d i : Nat), i + d = xs.length → Ev (fun k => spec_Picks.l4 k none ((xs.take i).map (sub ps[j]) ++ xs.drop i) used acc ps j i s) R
 | 0, i, e => by
   refine Ev.unroll ?_
   simp only [spec_Picks.l4, wrap_sc (show j < 9223372036854775807 by omega)]
   rw [drop_end (by omega), List.append_nil, List.take_of_length_le (by omega)]
   exact Ev.ifn (by rw [List.length_map]; omega) hR
 | d + 1, i, e => by
   have hi : i < xs.length := by omega
   have hb := hx xs[i] (List.getElem_mem hi)
   have ih := spec_Picks_l4 s used acc none ps j hj hq hps xs hl hx R hR d (i + 1) (by omega)
   rw [List.take_succ_eq_append_getElem hi, List.map_append, List.append_assoc] at ih
   rw [drop_cons hi]
   have hyl : ((xs.take i).map (sub ps[j])).length = i := by rw [List.length_map, List.length_take]; omega
   generalize (xs.take i).map (sub ps[j]) = ys at ih hyl ⊢
   have er : rd_T48 (ys ++ xs[i] :: xs.drop (i + 1)) (i : Int) = xs[i] := by
    unfold rd_T48
    rw [Int.toNat_natCast]
    exact getD_mid _ _ _ _ _ hyl.symm
   refine Ev.unroll ?_
   simp only [spec_Picks.l4, er, rd_pick hj, wrap_sc (show i < 9223372036854775807 by omega), Int.toNat_natCast]
   refine Ev.ifp (by simp only [List.length_append, List.length_cons]; omega) (Ev.ifp (by omega) (Ev.ifp (by omega) (Ev.ifp (by omega) ?_)))
   by_cases c : xs[i].f0 = ps[j].f1
   ·rw [wrap_id (x := xs[i].f1 - ps[j].f2) (by omega) (by omega)]
    refine Ev.ifp c ?_
    rw [List.set_append_right _ _ (by omega), hyl, Nat.sub_self, List.set_cons_zero]
    simp only [List.map_cons, List.map_nil, List.cons_append, List.nil_append] at ih
    rw [show sub ps[j] xs[i] = ⟨xs[i].f0, xs[i].f1 - ps[j].f2⟩ by unfold sub; rw [if_pos c]] at ih
    exact ih
   ·refine Ev.ifn c ?_
    simp only [List.map_cons, List.map_nil, List.cons_append, List.nil_append] at ih
    rw [show sub ps[j] xs[i] = xs[i] by unfold sub; rw [if_neg c]] at ih
    exact ih
theorem sub_same (q : S50) (t : List S50) (xs : List S48) : (xs.map (sub q)).map (fun it => (⟨it.f0, it.f1 - same t it.f0⟩ : S48)) = xs.map (fun it => ⟨it.f0, it.f1 - same (q :: t) it.f0⟩) := by
 rw [List.map_map]
 refine List.map_congr_left fun it _ => ?_
 show (⟨(sub q it).f0, (sub q it).f1 - same t (sub q it).f0⟩ : S48) = _
 rw [same]
 unfold sub
 by_cases c : it.f0 = q.f1
 ·rw [if_pos c, if_pos c.symm]
  show (⟨it.f0, it.f1 - q.f2 - same t it.f0⟩ : S48) = _
  rw [Int.sub_sub]
 ·rw [if_neg c, if_neg (fun h => c h.symm), Int.zero_add]
theorem spec_Picks_l3 (s : List S79) (used : List Bool) (acc none ps : List S50) (hp : PicksOk ps) (R : List S50 × Bool) : ∀ (d j : Nat) (xs : List S48), j + d = ps.length → xs.length ≤ 6 → (∀ x ∈ xs, -1000 * (j : Int) ≤ x.f1 ∧ x.f1 ≤ 1000) →
  Ev (fun k => spec_Picks.l0 k none (xs.map (fun it => ⟨it.f0, it.f1 - same (ps.drop j) it.f0⟩)) used acc s) R → Ev (fun k => spec_Picks.l3 k none xs used acc ps j s) R
 | 0, j, xs, e, hl, hx, hR => by
   rw [drop_end (by omega)] at hR
   have e1 : xs.map (fun it => (⟨it.f0, it.f1 - same [] it.f0⟩ : S48)) = xs := by
    conv => rhs; rw [← List.map_id xs]
    refine List.map_congr_left fun it _ => ?_
    show (⟨it.f0, it.f1 - 0⟩ : S48) = it
    rw [Int.sub_zero]
   rw [e1] at hR
   refine Ev.unroll ?_
   simp only [spec_Picks.l3]
   exact Ev.ifn (by omega) hR
 | d + 1, j, xs, e, hl, hx, hR => by
   have hj : j < ps.length := by omega
   have h6 := hp.len
   have hq := hp.num ps[j] (List.getElem_mem hj)
   rw [drop_cons hj, ← sub_same] at hR
   have ih := spec_Picks_l3 s used acc none ps hp R d (j + 1) (xs.map (sub ps[j])) (by omega) (by rw [List.length_map]; exact hl) (fun x hx2 => by
    obtain ⟨y, hy, rfl⟩ := List.mem_map.1 hx2
    have := hx y hy
    unfold sub
    split
    ·show _ ≤ y.f1 - ps[j].f2 ∧ y.f1 - ps[j].f2 ≤ 1000; omega
    ·omega) hR
   have h4 := spec_Picks_l4 s used acc none ps j hj hq h6 xs hl (fun x hx2 => by have := hx x hx2; omega) R ih xs.length 0 (by omega)
   rw [List.take_zero, List.map_nil, List.nil_append, List.drop_zero] at h4
   refine Ev.unroll ?_
   simp only [spec_Picks.l3]
   exact Ev.ifp (by omega) h4
theorem spec_Picks_l1 (s : List S79) (used : List Bool) (acc none : List S50) (left : List S48) (hl : Left left) (R : List S50 × Bool) (h0 : sumL left = 0 → R = (acc, true)) (h1 : sumL left ≠ 0 → Ev (fun k => spec_Picks.l2 k none left used acc (-1) 0 0 s) R) :
  ∀ (d i : Nat) (n : Int), i + d = left.length → 0 ≤ n → n ≤ 1000 * (i : Int) → n + sumL (left.drop i) = sumL left → Ev (fun k => spec_Picks.l1 k none left used acc n i s) R
 | 0, i, n, e, hn, hn2, hs => by
   rw [drop_end (by omega)] at hs
   have e2 : n = sumL left := by rw [← hs]; exact (Int.add_zero n).symm
   refine Ev.unroll ?_
   simp only [spec_Picks.l1]
   refine Ev.ifn (by omega) ?_
   by_cases c : n = 0
   ·exact Ev.ifp c (Ev.fin (h0 (by omega)).symm)
   ·exact Ev.ifn c (h1 (by omega))
 | d + 1, i, n, e, hn, hn2, hs => by
   have hi : i < left.length := by omega
   have h6 := hl.len
   have hb := hl.num left[i] (List.getElem_mem hi)
   rw [drop_cons hi, show sumL (left[i] :: left.drop (i + 1)) = left[i].f1 + sumL (left.drop (i + 1)) from rfl] at hs
   have ih := spec_Picks_l1 s used acc none left hl R h0 h1 d (i + 1) (n + left[i].f1) (by omega) (by omega) (by omega) (by omega)
   refine Ev.unroll ?_
   simp only [spec_Picks.l1, rd_item hi, wrap_sc (show i < 9223372036854775807 by omega), wrap_id (x := n + left[i].f1) (by omega) (by omega)]
   exact Ev.ifp (by omega) (Ev.ifp (by omega) ih)
def unusedN (used : List Bool) : Nat := used.countP (fun x => !x)
theorem unusedN_set {used : List Bool} {b : Nat} (hb : b < used.length) (h : used.getD b false = false) : unusedN (used.set b true) + 1 = unusedN used := by
 unfold unusedN
 rw [getD_at hb] at h
 have h4 : 0 < used.countP (fun x => !x) := List.countP_pos_iff.2 ⟨used[b], List.getElem_mem hb, by rw [h]; rfl⟩
 rw [List.countP_set hb, h]
 simp
 omega
theorem items_left {l : List S48} (h : itemsOk l = true) : Left l ∧ nz l = l := by
 unfold itemsOk at h
 simp only [Bool.and_eq_true, decide_eq_true_eq, allFrom_iff] at h
 have hk : ∀ j, j < l.length → (1 ≤ (l.getD j z48).f0 ∧ (l.getD j z48).f0 ≤ 50 ∧ 1 ≤ (l.getD j z48).f1 ∧ (l.getD j z48).f1 ≤ 1000) ∧ (0 < j → (l.getD (j - 1) z48).f0 < (l.getD j z48).f0) := fun j hj => by
  have := h.1 j (by omega) hj
  unfold itemAt at this
  simp only [Bool.and_eq_true, Bool.or_eq_true, inB_iff, decide_eq_true_eq, beq_iff_eq] at this
  exact ⟨⟨this.1.1.1, this.1.1.2, this.1.2.1, this.1.2.2⟩, fun h0 => by rcases this.2 with h | h; omega; exact h⟩
 have step : ∀ (j i : Nat), i < j → j < l.length → (l.getD i z48).f0 < (l.getD j z48).f0 := by
  intro j
  induction j with
  | zero => intro i h; omega
  | succ j ih =>
   intro i h1 h2
   have h3 := (hk (j + 1) h2).2 (by omega)
   rw [Nat.add_sub_cancel] at h3
   by_cases e : i = j
   ·subst e; exact h3
   ·exact Int.lt_trans (ih i (by omega) (by omega)) h3
 have num : ∀ x ∈ l, 1 ≤ x.f0 ∧ x.f0 ≤ 50 ∧ 1 ≤ x.f1 ∧ x.f1 ≤ 1000 := fun x hx => by
  obtain ⟨j, hj, rfl⟩ := List.mem_iff_getElem.1 hx
  have := (hk j hj).1
  rwa [getD_at hj] at this
 refine ⟨⟨h.2, fun x hx => by have := num x hx; omega, List.pairwise_iff_getElem.2 fun i j hi hj hij => ?_⟩, ?_⟩
 ·have := step j i hij hj
  rwa [getD_at hi, getD_at hj] at this
 ·unfold nz
  rw [List.filter_eq_self]
  intro x hx
  have := num x hx
  simp; omega

theorem spec_best (s : List S79) (hok : stockOk s = true) (used : List Bool) (hu : used.length = s.length) (left : List S48) (hl : Left left) (acc none : List S50) (Q : List S50 × Bool → Prop)
  (K : ∀ B M : Int, (B = -1 ∨ ∃ j : Nat, j < s.length ∧ B = (j : Int) ∧ used.getD j false = false) → ∃ R : List S50 × Bool, Ev (fun k => spec_Picks.l2 k none left used acc B M s.length s) R ∧ Q R) :
  ∀ (d i : Nat) (B M : Int), i + d = s.length → (B = -1 ∨ ∃ j : Nat, j < i ∧ B = (j : Int) ∧ used.getD j false = false) → ∃ R : List S50 × Bool, Ev (fun k => spec_Picks.l2 k none left used acc B M i s) R ∧ Q R
 | 0, i, B, M, e, hb => by
   obtain rfl : i = s.length := by omega
   exact K B M hb
 | d + 1, i, B, M, e, hb => by
   have hi : i < s.length := by omega
   have h12 := (stock_pods hok).1
   have hpf := (stock_pods hok).2 i hi
   have hs := spec_l6Could_f (podAtN s i) left hl hpf.stacks hpf.len
   have er : rdOf false used (i : Int) = used.getD i false := by unfold rdOf; rw [Int.toNat_natCast]
   have stay : ∃ R : List S50 × Bool, Ev (fun k => spec_Picks.l2 k none left used acc B M ((i + 1 : Nat) : Int) s) R ∧ Q R := spec_best s hok used hu left hl acc none Q K d (i + 1) B M (by omega) (by
    rcases hb with h | ⟨j, h1, h2⟩
    ·exact .inl h
    ·exact .inr ⟨j, by omega, h2⟩)
   by_cases c : used.getD i false = true
   ·obtain ⟨R, e1, e2⟩ := stay
    refine ⟨R, Ev.unroll ?_, e2⟩
    simp only [spec_Picks.l2, rd_pod, er, wrap_sc (show i < 9223372036854775807 by omega)]
    exact Ev.ifp (by omega) (Ev.ifp (by omega) (Ev.bind hs (Ev.ifp (by omega) (Ev.ifp c e1))))
   ·by_cases c2 : couldN (podAtN s i) left > M
    ·obtain ⟨R, e1, e2⟩ := spec_best s hok used hu left hl acc none Q K d (i + 1) (i : Int) (couldN (podAtN s i) left) (by omega) (.inr ⟨i, by omega, rfl, by simpa using c⟩)
     refine ⟨R, Ev.unroll ?_, e2⟩
     simp only [spec_Picks.l2, rd_pod, er, wrap_sc (show i < 9223372036854775807 by omega)]
     exact Ev.ifp (by omega) (Ev.ifp (by omega) (Ev.bind hs (Ev.ifp (by omega) (Ev.ifn c (Ev.ifp c2 e1)))))
    ·obtain ⟨R, e1, e2⟩ := stay
     refine ⟨R, Ev.unroll ?_, e2⟩
     simp only [spec_Picks.l2, rd_pod, er, wrap_sc (show i < 9223372036854775807 by omega)]
     exact Ev.ifp (by omega) (Ev.ifp (by omega) (Ev.bind hs (Ev.ifp (by omega) (Ev.ifn c (Ev.ifn c2 e1)))))
theorem spec_rounds (s : List S79) (hok : stockOk s = true) : ∀ (m : Nat) (used : List Bool) (left : List S48) (acc : List S50), unusedN used = m → used.length = s.length → Left left → acc.length + 6 * m ≤ 100 →
  ∃ R : List S50 × Bool, Ev (fun k => spec_Picks.l0 k [] left used acc s) R ∧ R.1.length ≤ 1000 := by
 intro m
 induction m using Nat.strongRecOn with
 | _ m IH =>
 intro used left acc hm hul hl ha
 have h12 := (stock_pods hok).1
 by_cases c : sumL left = 0
 ·refine ⟨(acc, true), Ev.unroll ?_, by show acc.length ≤ 1000; omega⟩
  simp only [spec_Picks.l0]
  exact spec_Picks_l1 s used acc [] left hl _ (fun _ => rfl) (fun h => absurd c h) left.length 0 0 (by omega) (by omega) (by omega) (by rw [List.drop_zero]; omega)
 ·obtain ⟨R, e1, e2⟩ := spec_best s hok used hul left hl acc [] (fun R => R.1.length ≤ 1000) (fun B M hb => by
   rcases hb with rfl | ⟨j, hj, rfl, hu⟩
   ·refine ⟨([], false), Ev.unroll ?_, by simp⟩
    simp only [spec_Picks.l2]
    exact Ev.ifn (by omega) (Ev.ifp (by omega) (Ev.now _))
   ·have hpf := (stock_pods hok).2 j hj
    have hcl := couldL_ok (podAtN s j) hl
    have hcl6 := hcl.len
    have hmu := unusedN_set (used := used) (b := j) (by omega) hu
    obtain ⟨R, r1, r3⟩ := IH (unusedN (used.set j true)) (by omega) (used.set j true) (left.map (dec (podAtN s j))) (acc ++ couldL (podAtN s j) left) rfl (by rw [List.length_set]; exact hul) (hl.dec _) (by rw [List.length_append]; omega)
    have hc := spec_l6Could_f (podAtN s j) left hl hpf.stacks hpf.len
    refine ⟨R, Ev.unroll ?_, r3⟩
    simp only [spec_Picks.l2, rd_pod, Int.toNat_natCast]
    refine Ev.ifn (by omega) (Ev.ifn (by omega) (Ev.ifp (by omega) (Ev.ifp (by omega) (Ev.ifp (by omega) (Ev.bind hc (Ev.ifp (by dsimp only; omega) ?_))))))
    refine spec_Picks_l3 s (used.set j true) _ [] _ hcl R (couldL (podAtN s j) left).length 0 left (by omega) hl.len (fun x hx => by have := hl.num x hx; omega) ?_
    rw [List.drop_zero]
    have em : left.map (fun it => (⟨it.f0, it.f1 - same (couldL (podAtN s j) left) it.f0⟩ : S48)) = left.map (dec (podAtN s j)) := List.map_congr_left fun it hit => by
     show (⟨it.f0, it.f1 - same (couldL (podAtN s j) left) it.f0⟩ : S48) = ⟨it.f0, it.f1 - offOf (podAtN s j) it⟩
     rw [same_off _ hl it hit]
    rw [em]
    exact r1) s.length 0 (-1) 0 (by omega) (.inl rfl)
  refine ⟨R, Ev.unroll ?_, e2⟩
  simp only [spec_Picks.l0]
  exact spec_Picks_l1 s used acc [] left hl R (fun h => absurd h c) (fun _ => e1) left.length 0 0 (by omega) (by omega) (by omega) (by rw [List.drop_zero]; omega)
theorem spec_Picks_ends (s : List S79) (hn : s.length ≤ 4194304) (hx : ∀ x ∈ s, x.f2.length ≤ 4194304) (l : List S48) (hl : l.length ≤ 1048576) :
  ∃ R : List S50 × Bool, Ev (fun k => spec_Picks.f k s l) R ∧ R.1.length ≤ 1000 := by
 have s1 := spec_StockOk_f s hn hx
 have i1 := spec_ItemsOk_f l hl
 have bad1 : Ev (fun k => spec_Picks.j0 k l [] true s) (([], false) : List S50 × Bool) := Ev.unroll (by
  simp only [spec_Picks.j0]; exact Ev.ifp trivial (Ev.now _))
 unfold spec_Picks.f
 simp only [some_bind]
 by_cases hs : stockOk s = true
 ·by_cases hi : itemsOk l = true
  ·obtain ⟨hL, hz⟩ := items_left hi
   have h12 := (stock_pods hs).1
   have h6 := hL.len
   have hm : unusedN (List.replicate s.length false) = s.length := by unfold unusedN; rw [List.countP_replicate]; rfl
   obtain ⟨R, e1, e3⟩ := spec_rounds s hs s.length (List.replicate s.length false) l [] hm (by simp) hL (by simp; omega)
   rw [hi] at i1
   refine ⟨R, Ev.bind s1 (Ev.ifp hs (Ev.bind i1 (Ev.unroll ?_))), e3⟩
   simp only [spec_Picks.j0, some_bind, List.nil_append, List.length_nil, Int.toNat_natCast]
   exact Ev.ifn (by simp) (Ev.ifp (by omega) (Ev.ifp (by omega) (Ev.ifp (by omega) e1)))
  ·have hi2 : itemsOk l = false := by simpa using hi
   rw [hi2] at i1
   exact ⟨([], false), Ev.bind s1 (Ev.ifp hs (Ev.bind i1 bad1)), by simp⟩
 ·exact ⟨([], false), Ev.bind s1 (Ev.ifn hs bad1), by simp⟩

theorem laws_among_l0 (xs : List Int) (x : Int) (hn : xs.length ≤ BIG) : ∀ (d i : Nat), i + d = xs.length → Ev (fun k => laws_among.l0 k xs x i) ((xs.drop i).contains x)
 | 0, i, h => Ev.unroll (by
   unfold BIG at hn
   simp (disch := omega) only [laws_among.l0, ↓if_pos, ↓if_neg, if_pos, if_neg, decide_eq_true_eq, ↓reduceIte, ↓wrap_sc, wrap_id, some_bind, Int.toNat_natCast, rd_nat', getD_zero', Bool.not_true, Bool.not_false, Bool.false_eq_true, decide_true, decide_false]
   exact Ev.fin (by rw [drop_end (by omega)]; rfl))
 | d + 1, i, h => Ev.unroll (by
   have hi : i < xs.length := by omega
   have ih := laws_among_l0 xs x hn d (i + 1) (by omega)
   unfold BIG at hn
   simp only [laws_among.l0, rd_nat hi]
   rw [drop_cons hi, List.contains_cons, wrap_sc (i := i) (by omega)]
   refine Ev.ifp (by omega) (Ev.ifp (by omega) ?_)
   by_cases h1 : xs[i] = x
   ·exact Ev.ifp h1 (Ev.fin (by rw [h1]; simp))
   ·rw [show (x == xs[i]) = false by simpa using fun e => h1 e.symm, Bool.false_or]
    exact Ev.ifn h1 ih)
theorem laws_among_f (xs : List Int) (x : Int) (hn : xs.length ≤ BIG) : Ev (fun k => laws_among.f k xs x) (xs.contains x) := laws_among_l0 xs x hn xs.length 0 (by omega)

theorem l6Draw_ok (b : List Int) (hb : b.length ≤ 1048576) (i s : Int) (hi : 0 ≤ i) : ∃ (l : List S79) (ps : List S50) (i' s' : Int), Ev (fun k => spec_l6Draw.f k b i s) (l, ps, i', s') ∧ SmS l ∧ ps.length ≤ 2000 := by
 unfold spec_l6Draw.f
 obtain ⟨l, i1, s1, e1, hi1, hl⟩ := l5DrawAny_ok b hb i s hi
 obtain ⟨it, i2, s2, e2, hi2, hit⟩ := l6Items_ok b hb i1 s1 hi1
 obtain ⟨R, e3, hR⟩ := spec_Picks_ends l hl.big.1 hl.big.2 it (by omega)
 obtain ⟨y, i4, s4, e4, hi4⟩ := l1Once_ok b i2 s2 4 hi2 hb
 cases y with
 | true =>
  obtain ⟨u, i5, s5, e5, hi5, _⟩ := l1Int_ok b i4 s4 [10, 20, 7] hi4 hb (by simp) (by simp)
  obtain ⟨v, i6, s6, e6, hi6, _⟩ := l1Below_ok b i5 s5 5 hi5 hb
  obtain ⟨z, i7, s7, e7, hi7, _⟩ := l1Below_ok b i6 s6 4 hi6 hb
  refine ⟨l, R.1 ++ [⟨u, wrap64 (1 + v), z⟩], i7, s7, Ev.bind e1 (Ev.bind e2 (Ev.bind e3 ?_)), hl, by simp; omega⟩
  simp only [e4, some_bind]
  refine Ev.ifp trivial ?_
  simp only [e5, e6, e7, some_bind]
  exact Ev.ifp (by omega) (Ev.now _)
 | false =>
  refine ⟨l, R.1, i4, s4, Ev.bind e1 (Ev.bind e2 (Ev.bind e3 ?_)), hl, by omega⟩
  simp only [e4, some_bind]
  exact Ev.ifn (by decide) (Ev.now _)
theorem DrawHoldAll_ok (b : List Int) (hb : b.length ≤ 1048576) : ∃ (l : List S79) (ps : List S50), Ev (fun k => spec_DrawHoldAll.f k b) (l, ps) ∧ SmS l ∧ ps.length ≤ 2000 := by
 unfold spec_DrawHoldAll.f
 obtain ⟨s, e0⟩ := l1New_ok b hb
 obtain ⟨l, ps, i', s', e1, h⟩ := l6Draw_ok b hb 0 s (by omega)
 exact ⟨l, ps, Ev.bind e0 (Ev.bind e1 (Ev.now _)), h⟩
theorem FnEach : laws_FnEach.Pure := by
 intro b hm hb2 hby
 refine Ev.rounds ?_
 unfold laws_FnEach.f
 simp only [laws_big.f, some_bind, decide_eq_true_eq]
 refine ev_ite' (fun _ => Ev.now _) (fun hbig => ?_)
 obtain ⟨l, ps, e, hs, hp⟩ := DrawHoldAll_ok b (by omega)
 have B := hs.big
 have hI := impl_HoldAll_f l B ps (by omega)
 have hS := spec_HoldAll_f l B ps (by omega)
 have G := eachOf_big (opOf_big 1) B ps l B
 refine Ev.bind e (Ev.bind hI (Ev.bind hS (Ev.bind (impl_PodsOf_f ps (by omega)) ?_)))
 have hle : (podsOf ps).length ≤ 2000 := by have := podsOf_le ps []; unfold podsOf; simp at this ⊢; omega
 have hnd : (podsOf ps).Nodup := pods_nodup ps [] (by simp)
 have hin : ∀ p ∈ ps, (podsOf ps).contains p.f0 = true := fun p h => by
  rw [List.contains_iff_mem]
  exact (pods_mem ps [] p.f0).2 (.inr ⟨p, h, rfl⟩)
 have he : ps.length = 0 → (podsOf ps).length = 0 := fun h => by
  rw [List.length_eq_zero_iff.1 h]; rfl
 have hno : ∀ r : List S79 × Bool, r = eachOf (opOf 1) l ps l → r.2 = false → r.1 = l := by
  have key : ∀ (qs : List S50) (out : List S79), (eachOf (opOf 1) l qs out).2 = false → (eachOf (opOf 1) l qs out).1 = l := by
   intro qs
   induction qs with
   | nil => intro out h; cases h
   | cons q t ih =>
    intro out h
    rw [eachOf] at h ⊢
    split at h
    ·rename_i h0; rw [if_pos h0]; exact ih _ h
    ·rename_i h0; rw [if_neg h0]
  rintro r rfl h
  exact key ps l h
 generalize hr : eachOf (opOf 1) l ps l = r at *
 generalize podsOf ps = pods at *
 have fin : Ev (fun k => laws_FnEach.l1 k ps r.2 r.2 pods (pods.length : Int) l r.1) true := by
  have hlast : (if (ps.length : Int) > 0 then true else ((pods.length : Int) == 0)) = true := by
   by_cases c : (ps.length : Int) > 0
   ·rw [if_pos c]
   ·rw [if_neg c, beq_iff_eq]; have := he (by omega); omega
  have hev : Ev (fun _ => if (ps.length : Int) > 0 then (some true) else (some ((pods.length : Int) == 0))) true := by
   by_cases c : (ps.length : Int) > 0
   ·exact Ev.ifp c (Ev.now _)
   ·rw [if_neg c] at hlast; exact Ev.ifn c (Ev.fin hlast)
  refine Ev.unroll ?_
  simp only [laws_FnEach.l1]
  refine Ev.ifn (by omega) (Ev.ifp (by simp) ?_)
  by_cases c : r.2 = true
  ·exact Ev.ifp c hev
  ·have e1 := hno r rfl (by simpa using c)
   rw [e1]
   exact Ev.ifn c (Ev.bind (sameStock_f l B) (Ev.ifp rfl hev))
 have l2 : ∀ (i : Nat), i < pods.length → Ev (fun k => laws_FnEach.l1 k ps r.2 r.2 pods ((i + 1 : Nat) : Int) l r.1) true → ∀ (d j : Nat), j + d = i → Ev (fun k => laws_FnEach.l2 k ps r.2 r.2 pods i j l r.1) true := by
  intro i hi K d
  induction d with
  | zero =>
   intro j e
   refine Ev.unroll ?_
   simp only [laws_FnEach.l2, wrap_sc (show i < 9223372036854775807 by omega)]
   exact Ev.ifn (by omega) K
  | succ d ih =>
   intro j e
   have hne : rd pods (j : Int) ≠ rd pods (i : Int) := by
    rw [rd_nat (show j < pods.length by omega), rd_nat hi]
    intro h
    exact List.pairwise_iff_getElem.1 hnd j i (by omega) hi (by omega) h
   refine Ev.unroll ?_
   simp only [laws_FnEach.l2, wrap_sc (show j < 9223372036854775807 by omega)]
   exact Ev.ifp (by omega) (Ev.ifp (by omega) (Ev.ifp (by omega) (Ev.ifp (by omega) (Ev.ifp (by omega) (Ev.ifn hne (ih (j + 1) (by omega)))))))
 have l1 : ∀ (d i : Nat), i + d = pods.length → Ev (fun k => laws_FnEach.l1 k ps r.2 r.2 pods i l r.1) true := by
  intro d
  induction d with
  | zero =>
   intro i e
   obtain rfl : i = pods.length := by omega
   exact fin
  | succ d ih =>
   intro i e
   refine Ev.unroll ?_
   simp only [laws_FnEach.l1]
   exact Ev.ifp (by omega) (l2 i (by omega) (ih (i + 1) (by omega)) i 0 (by omega))
 have l0 : ∀ (d i : Nat), i + d = ps.length → Ev (fun k => laws_FnEach.l0 k ps r.2 r.2 pods i l r.1) true := by
  intro d
  induction d with
  | zero =>
   intro i e
   refine Ev.unroll ?_
   simp only [laws_FnEach.l0]
   exact Ev.ifn (by omega) (l1 pods.length 0 (by omega))
  | succ d ih =>
   intro i e
   have hi : i < ps.length := by omega
   have er : rd_T50 ps i = ps[i] := rd_struct_at hi
   have ha := laws_among_f pods ps[i].f0 (by unfold BIG; omega)
   rw [hin _ (List.getElem_mem hi)] at ha
   refine Ev.unroll ?_
   simp only [laws_FnEach.l0, er, wrap_sc (show i < 9223372036854775807 by omega)]
   exact Ev.ifp (by omega) (Ev.ifp (by omega) (Ev.bind ha (Ev.ifp rfl (ih (i + 1) (by omega)))))
 exact l0 ps.length 0 (by omega)

end Go.Proofs.Yteajnkondkfmgaa.Pure
