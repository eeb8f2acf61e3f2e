/- Proved here: the law FnTaken, over numbers and lists: for all arguments it returns true; no condition. -/
import Derived.Test.YteajnkondkfmgaaPFnTakenx18
namespace Go.Proofs.Yteajnkondkfmgaa.Pure
open Go.RowKit Go.Proofs.Yteajnkondkfmgaa.PFnTaken Go.Proofs.YteajnkondkfmgaaW.PrintWords Go.Proofs.YteajnkondkfmgaaW.PrintLast
set_option linter.unusedVariables false
set_option linter.unusedSimpArgs false

theorem Ev.unroll {α : Type} {g : Nat → Option α} {r : α} (h : Ev (fun k => g (k + 1)) r) : Ev g r := Ev.step (fun _ => rfl) h
theorem Ev.const {α : Type} {x : Option α} {r : α} (h : x = some r) : Ev (fun _ => x) r := ⟨0, fun _ _ => h⟩
theorem Ev.fin {α : Type} {r s : α} (h : r = s) : Ev (fun _ => some r) s := by rw [h]; exact Ev.now _
theorem wrap_id {x : Int} (h0 : -9223372036854775808 ≤ x) (h1 : x ≤ 9223372036854775807) : wrap64 x = x := by unfold wrap64; omega
theorem drop_cons {α : Type} {xs : List α} {i : Nat} (h : i < xs.length) : xs.drop i = xs[i] :: xs.drop (i + 1) := List.drop_eq_getElem_cons h
theorem drop_end {α : Type} {xs : List α} {i : Nat} (h : xs.length ≤ i) : xs.drop i = [] := List.drop_of_length_le h
theorem fill_step {α : Type} (ys zs : List α) (x : α) {i : Nat} (hi : i = ys.length) (hz : 0 < zs.length) : (ys ++ zs).set i x = (ys ++ [x]) ++ zs.drop 1 := by
 subst hi
 match zs, hz with
 | z :: zs, _ => simp
theorem set_id {α : Type} (xs : List α) (i : Nat) (h : i < xs.length) : xs.set i xs[i] = xs := by
 apply List.ext_getElem
 ·simp
 ·intro j h1 h2
  rw [List.getElem_set]
  split
  ·rename_i e; subst e; rfl
  ·rfl
theorem some_bind {α β : Type} (a : α) (f : α → Option β) : (some a).bind f = f a := rfl
theorem getD_at {α : Type} {xs : List α} {d : α} {i : Nat} (h : i < xs.length) : xs.getD i d = xs[i] := by simp [List.getD, h]
def allFrom (n i : Nat) (p : Nat → Bool) : Bool := (List.range' i (n - i)).all p
theorem allFrom_end {n i : Nat} {p : Nat → Bool} (h : n ≤ i) : allFrom n i p = true := by
 unfold allFrom
 rw [show n - i = 0 by omega]; rfl
theorem allFrom_step {n i : Nat} {p : Nat → Bool} (h : i < n) : allFrom n i p = (p i && allFrom n (i + 1) p) := by
 unfold allFrom
 rw [show n - i = (n - (i + 1)) + 1 by omega, List.range'_succ, List.all_cons]
theorem allFrom_iff {n i : Nat} {p : Nat → Bool} : allFrom n i p = true ↔ ∀ j, i ≤ j → j < n → p j = true := by
 unfold allFrom
 rw [List.all_eq_true]
 constructor
 ·intro h j h1 h2
  exact h j (by rw [List.mem_range'_1]; omega)
 ·intro h j hj
  rw [List.mem_range'_1] at hj
  exact h j hj.1 (by omega)
theorem wrap_sc {i : Nat} (h : i < 9223372036854775807) : wrap64 ((i : Int) + 1) = ((i + 1 : Nat) : Int) := by unfold wrap64; omega
theorem ev_ite {α : Type} {c : Prop} [Decidable c] {g h : Nat → Option α} {r s : α} (h1 : c → Ev g r) (h2 : ¬ c → Ev h s) : Ev (fun k => if c then g k else h k) (if c then r else s) := by
 by_cases hc : c
 ·simp only [if_pos hc]; exact h1 hc
 ·simp only [if_neg hc]; exact h2 hc
theorem Ev.ifp {α : Type} {c : Prop} [Decidable c] {g h : Nat → Option α} {r : α} (hc : c) (e : Ev g r) : Ev (fun k => if c then g k else h k) r := by simp only [if_pos hc]; exact e
theorem Ev.ifn {α : Type} {c : Prop} [Decidable c] {g h : Nat → Option α} {r : α} (hc : ¬ c) (e : Ev h r) : Ev (fun k => if c then g k else h k) r := by simp only [if_neg hc]; exact e
theorem ev_ite' {α : Type} {c : Prop} [Decidable c] {g h : Nat → Option α} {r : α} (h1 : c → Ev g r) (h2 : ¬ c → Ev h r) : Ev (fun k => if c then g k else h k) r := by
 by_cases hc : c
 ·simp only [if_pos hc]; exact h1 hc
 ·simp only [if_neg hc]; exact h2 hc

theorem bits_and_small (x : Int) {m : Nat} (hm : m < 256) : 0 ≤ Go.bits .and .i64 x (m : Int) ∧ Go.bits .and .i64 x (m : Int) ≤ (m : Int) := by
 unfold Go.bits
 show 0 ≤ IntKind.i64.wrap ((BitVec.ofInt 64 x &&& BitVec.ofInt 64 (m : Int)).toNat : Int) ∧ IntKind.i64.wrap ((BitVec.ofInt 64 x &&& BitVec.ofInt 64 (m : Int)).toNat : Int) ≤ (m : Int)
 rw [BitVec.toNat_and, BitVec.ofInt_natCast, BitVec.toNat_ofNat, Nat.mod_eq_of_lt (show m < 2 ^ 64 by omega)]
 have h : (BitVec.ofInt 64 x).toNat &&& m ≤ m := Nat.and_le_right
 rw [i64_w, wrap_id (by omega) (by omega)]
 omega
theorem l1Byte_ok (b : List Int) (i h : Int) (hi : 0 ≤ i) (hb : b.length ≤ 1048576) : ∃ x i' h' : Int, spec_l1Byte.f b i h = some (x, i', h') ∧ 0 ≤ x ∧ x ≤ 255 ∧ 0 ≤ i' := by
 unfold spec_l1Byte.f
 by_cases h1 : i < (b.length : Int)
 ·rw [if_pos h1, if_pos hi, wrap_id (x := i + 1) (by omega) (by omega)]
  have := bits_and_small (m := 255) (wrap64 (Go.bits .and .i64 (Go.bits .xor .i64 (wrap64 (wrap64 (h * 6364136223846793005) + 1442695040888963407) / 8589934592) (wrap64 (wrap64 (h * 6364136223846793005) + 1442695040888963407) / 140737488355328)) 255 + wrap64 (rd b i))) (by omega)
  exact ⟨_, _, _, rfl, this.1, this.2, by omega⟩
 ·rw [if_neg h1]
  have := bits_and_small (m := 255) (Go.bits .xor .i64 (wrap64 (wrap64 (h * 6364136223846793005) + 1442695040888963407) / 8589934592) (wrap64 (wrap64 (h * 6364136223846793005) + 1442695040888963407) / 140737488355328)) (by omega)
  exact ⟨_, _, _, rfl, this.1, this.2, by omega⟩
theorem l1Below_ok (b : List Int) (i h n : Int) (hi : 0 ≤ i) (hb : b.length ≤ 1048576) : ∃ x i' h' : Int, spec_l1Below.f b i h n = some (x, i', h') ∧ 0 ≤ i' ∧ 0 ≤ x ∧ (0 < n → x < n) ∧ (n ≤ 0 → x = 0) := by
 unfold spec_l1Below.f
 by_cases h1 : n ≤ 0
 ·rw [if_pos h1]
  exact ⟨_, _, _, rfl, hi, by omega, by omega, fun _ => rfl⟩
 ·rw [if_neg h1]
  obtain ⟨x, i1, s1, e1, x0, x1, hi1⟩ := l1Byte_ok b i h hi hb
  rw [e1]
  simp only [some_bind]
  by_cases h2 : n ≤ 256
  ·rw [if_pos h2, if_neg (by omega)]
   refine ⟨_, _, _, rfl, hi1, ?_, fun _ => ?_, fun h => by omega⟩
   ·rw [Int.tmod_eq_emod_of_nonneg x0]; exact Int.emod_nonneg _ (by omega)
   ·rw [Int.tmod_eq_emod_of_nonneg x0]; exact Int.emod_lt_of_pos _ (by omega)
  ·rw [if_neg h2]
   obtain ⟨y, i2, s2, e2, y0, y1, hi2⟩ := l1Byte_ok b i1 s1 hi1 hb
   rw [e2]
   simp only [some_bind]
   obtain ⟨z, i3, s3, e3, z0, z1, hi3⟩ := l1Byte_ok b i2 s2 hi2 hb
   rw [e3]
   simp only [some_bind]
   rw [if_neg (by omega), wrap_id (x := x * 65536) (by omega) (by omega), wrap_id (x := y * 256) (by omega) (by omega), wrap_id (x := x * 65536 + y * 256) (by omega) (by omega), wrap_id (x := x * 65536 + y * 256 + z) (by omega) (by omega)]
   refine ⟨_, _, _, rfl, hi3, ?_, fun _ => ?_, fun h => by omega⟩
   ·rw [Int.tmod_eq_emod_of_nonneg (by omega)]; exact Int.emod_nonneg _ (by omega)
   ·rw [Int.tmod_eq_emod_of_nonneg (by omega)]; exact Int.emod_lt_of_pos _ (by omega)
theorem l1Once_ok (b : List Int) (i h n : Int) (hi : 0 ≤ i) (hb : b.length ≤ 1048576) : ∃ (x : Bool) (i' h' : Int), spec_l1Once.f b i h n = some (x, i', h') ∧ 0 ≤ i' := by
 obtain ⟨x, i1, s1, e1, hi1, _⟩ := l1Below_ok b i h n hi hb
 unfold spec_l1Once.f
 rw [e1]
 exact ⟨_, _, _, rfl, hi1⟩
theorem l1Int_ok (b : List Int) (i h : Int) (l : List Int) (hi : 0 ≤ i) (hb : b.length ≤ 1048576) (hl : 0 < l.length) (hl2 : l.length ≤ 1048576) : ∃ x i' h' : Int, spec_l1Int.f b i h l = some (x, i', h') ∧ 0 ≤ i' ∧ x ∈ l := by
 obtain ⟨x, i1, s1, e1, hi1, x0, x1, _⟩ := l1Below_ok b i h l.length hi hb
 have x2 := x1 (by omega)
 unfold spec_l1Int.f
 rw [e1]
 simp only [some_bind]
 rw [if_pos x0, if_pos x2]
 refine ⟨_, _, _, rfl, hi1, ?_⟩
 unfold rd
 rw [getD_at (by omega)]
 exact List.getElem_mem _
theorem l1New_ok (b : List Int) (hb : b.length ≤ 1048576) : ∃ h : Int, Ev (fun k => spec_l1New.f k b) (b, 0, h) := by
 have key : ∀ (d i : Nat) (h : Int), i + d = b.length → ∃ h' : Int, Ev (fun k => spec_l1New.l0 k b h i) (b, 0, h') := by
  intro d
  induction d with
  | zero =>
   intro i h e
   exact ⟨h, Ev.unroll (by simp only [spec_l1New.l0]; exact Ev.ifn (by omega) (Ev.now _))⟩
  | succ d ih =>
   intro i h e
   by_cases h4 : (i : Int) < 4000
   ·obtain ⟨h', hh⟩ := ih (i + 1) (Go.bits .and .i64 (wrap64 (wrap64 (wrap64 (h * 137) + wrap64 (rd b i)) + 11)) 1073741823) (by omega)
    refine ⟨h', Ev.unroll ?_⟩
    simp only [spec_l1New.l0]
    refine Ev.ifp (by omega) (Ev.ifp h4 (Ev.ifp (by omega) ?_))
    rw [wrap_sc (by omega)]
    exact hh
   ·exact ⟨h, Ev.unroll (by simp only [spec_l1New.l0]; exact Ev.ifp (by omega) (Ev.ifn h4 (Ev.now _)))⟩
 exact key b.length 0 _ (by omega)

def inB (a b c : Int) : Bool := decide (b ≤ a ∧ a ≤ c)
theorem inB_iff {a b c : Int} : inB a b c = true ↔ b ≤ a ∧ a ≤ c := by unfold inB; exact decide_eq_true_iff
theorem impl_in_f (a b c : Int) : impl_in.f a b c = some (inB a b c) := by
 unfold impl_in.f inB
 by_cases h : b ≤ a <;> by_cases h2 : a ≤ c <;> simp [h, h2]
theorem spec_l1In_f (a b c : Int) : spec_l1In.f a b c = some (inB a b c) := by
 unfold spec_l1In.f inB
 by_cases h : b ≤ a <;> by_cases h2 : a ≤ c <;> simp [h, h2]

def stackAt (l : List S72) (j : Nat) : S72 := l.getD j z72
def podAtN (l : List S79) (j : Nat) : S79 := l.getD j z79
def stackOk (l : List S72) (j : Nat) : Bool := inB (stackAt l j).f0 1 50 && (inB (stackAt l j).f1 1 1000 && (inB (stackAt l j).f2 0 (stackAt l j).f1 && (decide (j = 0) || decide ((stackAt l (j - 1)).f0 < (stackAt l j).f0))))
def stacksOk (l : List S72) : Bool := allFrom l.length 0 (stackOk l)
def podOk (p : S79) : Bool := inB p.f0 1 999 && (inB p.f1 0 99 && (decide (p.f2.length ≤ 8) && stacksOk p.f2))
def homesOk (l : List S79) (i : Nat) : Nat → Bool := fun k => !decide ((podAtN l k).f1 = (podAtN l i).f1)
def podAtOk (l : List S79) (i : Nat) : Bool := podOk (podAtN l i) && ((decide (i = 0) || decide ((podAtN l (i - 1)).f0 < (podAtN l i).f0)) && allFrom i 0 (homesOk l i))
def stockOk (l : List S79) : Bool := decide (l.length ≤ 12) && allFrom l.length 0 (podAtOk l)
theorem rd_stack {l : List S72} {i : Nat} : rd_T72 l (i : Int) = stackAt l i := by unfold rd_T72 stackAt; rw [Int.toNat_natCast]
theorem rd_pod {l : List S79} {i : Nat} : rd_T79 l (i : Int) = podAtN l i := by unfold rd_T79 podAtN; rw [Int.toNat_natCast]
theorem wrap_pd {i : Nat} (h : i < 9223372036854775807) (h0 : 0 < i) : wrap64 ((i : Int) - 1) = ((i - 1 : Nat) : Int) := by unfold wrap64; omega
theorem spec_l5Stacks_l0 (l : List S72) (hn : l.length ≤ 4194304) : ∀ (d i : Nat), i + d = l.length → Ev (fun k => spec_l5Stacks.l0 k l i) (decide (l.length ≤ 8) && allFrom l.length i (stackOk l))
 | 0, i, h => Ev.unroll (by
   simp only [spec_l5Stacks.l0]
   refine Ev.ifn (by omega) (Ev.fin ?_)
   rw [allFrom_end (by omega), Bool.and_true, Bool.eq_iff_iff, decide_eq_true_eq, decide_eq_true_eq]; omega)
 | d + 1, i, h => Ev.unroll (by
   have hi : i < l.length := by omega
   have ih := spec_l5Stacks_l0 l hn d (i + 1) (by omega)
   simp only [spec_l5Stacks.l0, spec_l1In_f, some_bind, rd_stack, wrap_sc (show i < 9223372036854775807 by omega)]
   rw [allFrom_step hi]
   refine Ev.ifp (by omega) (Ev.ifp (by omega) ?_)
   have no : ∀ b : Bool, stackOk l i = false → Ev (fun _ : Nat => some false) (decide (l.length ≤ 8) && (stackOk l i && allFrom l.length (i + 1) (stackOk l))) := fun _ e => Ev.fin (by rw [e]; simp)
   refine ev_ite' (fun h1 => ev_ite' (fun h2 => ev_ite' (fun h3 => ?_) (fun h3 => no true ?_)) (fun h2 => no true ?_)) (fun h1 => no true ?_)
   ·by_cases h0 : 0 < i
    ·rw [wrap_pd (by omega) h0]
     simp only [rd_stack]
     refine Ev.ifp (by omega) (Ev.ifp (by omega) (Ev.ifp (by omega) ?_))
     refine ev_ite' (fun h4 => no true ?_) (fun h4 => ?_)
     ·unfold stackOk; rw [h1, h2, h3, decide_eq_false (by omega), decide_eq_false (by omega)]; rfl
     ·rw [show stackOk l i = true by unfold stackOk; rw [h1, h2, h3, decide_eq_true (show (stackAt l (i - 1)).f0 < (stackAt l i).f0 by omega), Bool.or_true]; rfl, Bool.true_and]
      exact ih
    ·refine Ev.ifn (by omega) ?_
     rw [show stackOk l i = true by unfold stackOk; rw [h1, h2, h3, decide_eq_true (show i = 0 by omega), Bool.true_or]; rfl, Bool.true_and]
     exact ih
   ·unfold stackOk; rw [Bool.not_eq_true] at h3; rw [h3]; simp
   ·unfold stackOk; rw [Bool.not_eq_true] at h2; rw [h2]; simp
   ·unfold stackOk; rw [Bool.not_eq_true] at h1; rw [h1]; simp)
theorem impl_podOk_l0 (x y : Int) (l : List S72) (hn : l.length ≤ 4194304) : ∀ (d i : Nat), i + d = l.length → Ev (fun k => impl_podOk.l0 k l l.length i x y l) (allFrom l.length i (stackOk l))
 | 0, i, h => Ev.unroll (by
   simp only [impl_podOk.l0]
   exact Ev.ifn (by omega) (Ev.fin (allFrom_end (by omega)).symm))
 | d + 1, i, h => Ev.unroll (by
   have hi : i < l.length := by omega
   have ih := impl_podOk_l0 x y l hn d (i + 1) (by omega)
   simp only [impl_podOk.l0, impl_in_f, some_bind, rd_stack, wrap_sc (show i < 9223372036854775807 by omega)]
   rw [allFrom_step hi]
   refine Ev.ifp (by omega) (Ev.ifp (by omega) (Ev.ifp (by omega) ?_))
   have no : ∀ b : Bool, stackOk l i = false → Ev (fun _ : Nat => some false) (stackOk l i && allFrom l.length (i + 1) (stackOk l)) := fun _ e => Ev.fin (by rw [e]; simp)
   refine ev_ite' (fun h1 => ev_ite' (fun h2 => ev_ite' (fun h3 => ?_) (fun h3 => no true ?_)) (fun h2 => no true ?_)) (fun h1 => no true ?_)
   ·by_cases h0 : 0 < i
    ·rw [wrap_pd (by omega) h0]
     simp only [rd_stack]
     refine Ev.ifp (by omega) (Ev.ifp (by omega) (Ev.ifp (by omega) ?_))
     refine ev_ite' (fun h4 => no true ?_) (fun h4 => ?_)
     ·unfold stackOk; rw [h1, h2, h3, decide_eq_false (by omega), decide_eq_false (by omega)]; rfl
     ·rw [show stackOk l i = true by unfold stackOk; rw [h1, h2, h3, decide_eq_true (show (stackAt l (i - 1)).f0 < (stackAt l i).f0 by omega), Bool.or_true]; rfl, Bool.true_and]
      exact ih
    ·refine Ev.ifn (by omega) ?_
     rw [show stackOk l i = true by unfold stackOk; rw [h1, h2, h3, decide_eq_true (show i = 0 by omega), Bool.true_or]; rfl, Bool.true_and]
     exact ih
   ·unfold stackOk; rw [Bool.not_eq_true] at h3; rw [h3]; simp
   ·unfold stackOk; rw [Bool.not_eq_true] at h2; rw [h2]; simp
   ·unfold stackOk; rw [Bool.not_eq_true] at h1; rw [h1]; simp)
theorem impl_podOk_f (p : S79) (hn : p.f2.length ≤ 4194304) : Ev (fun k => impl_podOk.f k p.f0 p.f1 p.f2) (podOk p) := by
 unfold impl_podOk.f
 simp only [impl_in_f, some_bind]
 have no : podOk p = false → Ev (fun k => impl_podOk.j0 k true p.f0 p.f1 p.f2) (podOk p) := fun e => Ev.unroll (by
  simp only [impl_podOk.j0]
  exact Ev.ifp trivial (Ev.fin e.symm))
 refine ev_ite' (fun h1 => ev_ite' (fun h2 => ?_) (fun h2 => no ?_)) (fun h1 => no ?_)
 ·by_cases h3 : p.f2.length ≤ 8
  ·rw [decide_eq_false (by omega)]
   refine Ev.unroll ?_
   simp only [impl_podOk.j0]
   rw [show podOk p = stacksOk p.f2 by unfold podOk; rw [h1, h2, decide_eq_true h3]; rfl]
   exact Ev.ifn (by simp) (impl_podOk_l0 _ _ p.f2 hn p.f2.length 0 (by omega))
  ·rw [decide_eq_true (by omega)]
   exact no (by unfold podOk; rw [decide_eq_false h3]; simp)
 ·unfold podOk; rw [Bool.not_eq_true] at h2; rw [h2]; simp
 ·unfold podOk; rw [Bool.not_eq_true] at h1; rw [h1]; simp
theorem spec_StockOk_l1 (l : List S79) (i : Nat) (hn : l.length ≤ 4194304) (hi : i < l.length) (R : Bool) (hR : Ev (fun k => spec_StockOk.l0 k ((i + 1 : Nat) : Int) l) R) : ∀ (d j : Nat), j + d = i → Ev (fun k => spec_StockOk.l1 k i j l (podAtN l i).f0 (podAtN l i).f1 (podAtN l i).f2) (allFrom i j (homesOk l i) && R)
 | 0, j, h => Ev.unroll (by
   simp only [spec_StockOk.l1, wrap_sc (show i < 9223372036854775807 by omega)]
   rw [allFrom_end (by omega), Bool.true_and]
   exact Ev.ifn (by omega) hR)
 | d + 1, j, h => Ev.unroll (by
   have ih := spec_StockOk_l1 l i hn hi R hR d (j + 1) (by omega)
   simp only [spec_StockOk.l1, rd_pod, wrap_sc (show j < 9223372036854775807 by omega)]
   rw [allFrom_step (by omega)]
   refine Ev.ifp (by omega) (Ev.ifp (by omega) (Ev.ifp (by omega) ?_))
   refine ev_ite' (fun h1 => Ev.fin ?_) (fun h1 => ?_)
   ·unfold homesOk; rw [decide_eq_true h1]; rfl
   ·rw [show homesOk l i j = true by unfold homesOk; rw [decide_eq_false h1]; rfl, Bool.true_and]
    exact ih)
theorem spec_StockOk_l0 (l : List S79) (hn : l.length ≤ 4194304) (hx : ∀ x ∈ l, x.f2.length ≤ 4194304) : ∀ (d i : Nat), i + d = l.length → Ev (fun k => spec_StockOk.l0 k i l) (allFrom l.length i (podAtOk l))
 | 0, i, h => Ev.unroll (by
   simp only [spec_StockOk.l0]
   exact Ev.ifn (by omega) (Ev.fin (allFrom_end (by omega)).symm))
 | d + 1, i, h => Ev.unroll (by
   have hi : i < l.length := by omega
   have hp : (podAtN l i).f2.length ≤ 4194304 := by unfold podAtN; rw [getD_at hi]; exact hx _ (List.getElem_mem hi)
   have ih := spec_StockOk_l0 l hn hx d (i + 1) (by omega)
   have hs : Ev (fun k => spec_l5Stacks.f k (podAtN l i).f2) (decide ((podAtN l i).f2.length ≤ 8) && stacksOk (podAtN l i).f2) := spec_l5Stacks_l0 _ hp (podAtN l i).f2.length 0 (by omega)
   simp only [spec_StockOk.l0, spec_l1In_f, some_bind, rd_pod]
   rw [allFrom_step hi]
   refine Ev.ifp (by omega) (Ev.ifp (by omega) ?_)
   have no : podAtOk l i = false → Ev (fun k => spec_StockOk.j1 k i true l (podAtN l i).f0 (podAtN l i).f1 (podAtN l i).f2) (podAtOk l i && allFrom l.length (i + 1) (podAtOk l)) := fun e => Ev.unroll (by
    simp only [spec_StockOk.j1]
    exact Ev.ifp trivial (Ev.fin (by rw [e]; rfl)))
   have yes : podOk (podAtN l i) = true → (i = 0 ∨ (podAtN l (i - 1)).f0 < (podAtN l i).f0) → Ev (fun k => spec_StockOk.j1 k i false l (podAtN l i).f0 (podAtN l i).f1 (podAtN l i).f2) (podAtOk l i && allFrom l.length (i + 1) (podAtOk l)) := fun e e2 => Ev.unroll (by
    simp only [spec_StockOk.j1]
    rw [show podAtOk l i = allFrom i 0 (homesOk l i) by unfold podAtOk; rw [e, Bool.true_and, show (decide (i = 0) || decide ((podAtN l (i - 1)).f0 < (podAtN l i).f0)) = true by rcases e2 with h | h <;> simp [h], Bool.true_and]]
    exact Ev.ifn (by simp) (spec_StockOk_l1 l i hn hi _ ih i 0 (by omega)))
   refine ev_ite' (fun h1 => ev_ite' (fun h2 => Ev.bind hs (ev_ite' (fun h3 => ?_) (fun h3 => no ?_))) (fun h2 => no ?_)) (fun h1 => no ?_)
   ·have hok : podOk (podAtN l i) = true := by unfold podOk; rw [h1, h2, h3]; rfl
    by_cases h0 : 0 < i
    ·rw [wrap_pd (by omega) h0]
     simp only [rd_pod]
     refine Ev.ifp (by omega) (Ev.ifp (by omega) (Ev.ifp (by omega) ?_))
     by_cases h4 : (podAtN l (i - 1)).f0 ≥ (podAtN l i).f0
     ·rw [decide_eq_true h4]
      exact no (by unfold podAtOk; rw [hok, decide_eq_false (by omega), decide_eq_false (by omega)]; rfl)
     ·rw [decide_eq_false h4]
      exact yes hok (Or.inr (by omega))
    ·exact Ev.ifn (by omega) (yes hok (Or.inl (by omega)))
   ·unfold podAtOk podOk; rw [Bool.not_eq_true] at h3; rw [h3]; simp
   ·unfold podAtOk podOk; rw [Bool.not_eq_true] at h2; rw [h2]; simp
   ·unfold podAtOk podOk; rw [Bool.not_eq_true] at h1; rw [h1]; simp)
theorem spec_StockOk_f (l : List S79) (hn : l.length ≤ 4194304) (hx : ∀ x ∈ l, x.f2.length ≤ 4194304) : Ev (fun k => spec_StockOk.f k l) (stockOk l) := by
 unfold spec_StockOk.f stockOk
 by_cases h : l.length ≤ 12
 ·rw [decide_eq_true h, Bool.true_and]
  exact Ev.ifn (by omega) (spec_StockOk_l0 l hn hx l.length 0 (by omega))
 ·rw [decide_eq_false h, Bool.false_and]
  exact Ev.ifp (by omega) (Ev.now _)
theorem impl_StockOk_l1 (l ys : List S79) (i : Nat) (hn : l.length ≤ 4194304) (hi : i < l.length) (hy : ys = l.take i) (R : Bool) (hR : Ev (fun k => impl_StockOk.l0 k l l.length ((i + 1 : Nat) : Int) l) R) : ∀ (d j : Nat), j + d = i → Ev (fun k => impl_StockOk.l1 k l l.length i ys ys.length j l (podAtN l i).f0 (podAtN l i).f1 (podAtN l i).f2) (allFrom i j (homesOk l i) && R)
 | 0, j, h => Ev.unroll (by
   have hl : ys.length = i := by rw [hy]; simp; omega
   simp only [impl_StockOk.l1, wrap_sc (show i < 9223372036854775807 by omega)]
   rw [allFrom_end (by omega), Bool.true_and]
   exact Ev.ifn (by omega) hR)
 | d + 1, j, h => Ev.unroll (by
   have hl : ys.length = i := by rw [hy]; simp; omega
   have hj : podAtN ys j = podAtN l j := by unfold podAtN; rw [getD_at (by omega), getD_at (by omega)]; simp [hy]
   have ih := impl_StockOk_l1 l ys i hn hi hy R hR d (j + 1) (by omega)
   simp only [impl_StockOk.l1, rd_pod, wrap_sc (show j < 9223372036854775807 by omega)]
   rw [allFrom_step (by omega), hj]
   refine Ev.ifp (by omega) (Ev.ifp (by omega) (Ev.ifp (by omega) ?_))
   refine ev_ite' (fun h1 => Ev.fin ?_) (fun h1 => ?_)
   ·unfold homesOk; rw [decide_eq_true h1]; rfl
   ·rw [show homesOk l i j = true by unfold homesOk; rw [decide_eq_false h1]; rfl, Bool.true_and]
    exact ih)
theorem impl_StockOk_l0 (l : List S79) (hn : l.length ≤ 4194304) (hx : ∀ x ∈ l, x.f2.length ≤ 4194304) : ∀ (d i : Nat), i + d = l.length → Ev (fun k => impl_StockOk.l0 k l l.length i l) (allFrom l.length i (podAtOk l) && decide (l.length ≤ 12))
 | 0, i, h => Ev.unroll (by
   simp only [impl_StockOk.l0]
   refine Ev.ifn (by omega) (Ev.fin ?_)
   rw [allFrom_end (by omega), Bool.true_and, Bool.eq_iff_iff, decide_eq_true_eq, decide_eq_true_eq]; omega)
 | d + 1, i, h => Ev.unroll (by
   have hi : i < l.length := by omega
   have hp : (podAtN l i).f2.length ≤ 4194304 := by unfold podAtN; rw [getD_at hi]; exact hx _ (List.getElem_mem hi)
   have ih := impl_StockOk_l0 l hn hx d (i + 1) (by omega)
   have hs := impl_podOk_f (podAtN l i) hp
   simp only [impl_StockOk.l0, rd_pod]
   rw [allFrom_step hi]
   refine Ev.ifp (by omega) (Ev.ifp (by omega) (Ev.ifp (by omega) (Ev.bind hs ?_)))
   have no : podAtOk l i = false → Ev (fun k => impl_StockOk.j1 k i l l.length i true l (podAtN l i).f0 (podAtN l i).f1 (podAtN l i).f2) (podAtOk l i && allFrom l.length (i + 1) (podAtOk l) && decide (l.length ≤ 12)) := fun e => Ev.unroll (by
    simp only [impl_StockOk.j1]
    exact Ev.ifp trivial (Ev.fin (by rw [e]; rfl)))
   have yes : podOk (podAtN l i) = true → (i = 0 ∨ (podAtN l (i - 1)).f0 < (podAtN l i).f0) → Ev (fun k => impl_StockOk.j1 k i l l.length i false l (podAtN l i).f0 (podAtN l i).f1 (podAtN l i).f2) (podAtOk l i && allFrom l.length (i + 1) (podAtOk l) && decide (l.length ≤ 12)) := fun e e2 => Ev.unroll (by
    simp only [impl_StockOk.j1, some_bind, Int.toNat_natCast]
    rw [show podAtOk l i = allFrom i 0 (homesOk l i) by unfold podAtOk; rw [e, Bool.true_and, show (decide (i = 0) || decide ((podAtN l (i - 1)).f0 < (podAtN l i).f0)) = true by rcases e2 with h | h <;> simp [h], Bool.true_and], Bool.and_assoc]
    exact Ev.ifn (by simp) (Ev.ifp (by omega) (Ev.ifp (by omega) (impl_StockOk_l1 l _ i hn hi rfl _ ih i 0 (by omega)))))
   refine ev_ite' (fun hok => ?_) (fun hok => no ?_)
   ·by_cases h0 : 0 < i
    ·rw [wrap_pd (by omega) h0]
     simp only [rd_pod]
     refine Ev.ifp (by omega) (Ev.ifp (by omega) (Ev.ifp (by omega) ?_))
     by_cases h4 : (podAtN l (i - 1)).f0 ≥ (podAtN l i).f0
     ·rw [decide_eq_true h4]
      exact no (by unfold podAtOk; rw [hok, decide_eq_false (by omega), decide_eq_false (by omega)]; rfl)
     ·rw [decide_eq_false h4]
      exact yes hok (Or.inr (by omega))
    ·exact Ev.ifn (by omega) (yes hok (Or.inl (by omega)))
   ·unfold podAtOk; rw [Bool.not_eq_true] at hok; rw [hok]; simp)
theorem impl_StockOk_f (l : List S79) (hn : l.length ≤ 4194304) (hx : ∀ x ∈ l, x.f2.length ≤ 4194304) : Ev (fun k => impl_StockOk.f k l) (stockOk l) := by
 unfold impl_StockOk.f stockOk
 rw [Bool.and_comm]
 exact impl_StockOk_l0 l hn hx l.length 0 (by omega)

def lowIdx (l : List S72) (sku : Int) : Nat := (l.takeWhile (fun x => decide (x.f0 < sku))).length
def hitAt (l : List S72) (sku : Int) : Bool := decide (lowIdx l sku < l.length) && ((stackAt l (lowIdx l sku)).f0 == sku)
def stackOf (l : List S72) (sku : Int) : S72 := (l.find? (fun x => x.f0 == sku)).getD ⟨sku, 0, 0⟩
theorem lowIdx_le (l : List S72) (sku : Int) : lowIdx l sku ≤ l.length := by
 unfold lowIdx; exact (List.takeWhile_prefix _).length_le
theorem lowIdx_cons (x : S72) (l : List S72) (sku : Int) : lowIdx (x :: l) sku = if x.f0 < sku then lowIdx l sku + 1 else 0 := by
 unfold lowIdx
 rw [List.takeWhile_cons]
 by_cases h : x.f0 < sku <;> simp [h]
theorem hit_stack {sku : Int} : ∀ {l : List S72}, l.Pairwise (fun a b => a.f0 < b.f0) → (hitAt l sku = true → stackOf l sku = stackAt l (lowIdx l sku) ∧ (stackOf l sku).f0 = sku) ∧ (hitAt l sku = false → stackOf l sku = ⟨sku, 0, 0⟩ ∧ ∀ x ∈ l, x.f0 ≠ sku)
 | [], _ => ⟨fun h => by simp [hitAt] at h, fun _ => ⟨rfl, by simp⟩⟩
 | x :: t, hp => by
  have hs := List.pairwise_cons.1 hp
  have ih := hit_stack (sku := sku) hs.2
  have el := lowIdx_cons x t sku
  by_cases h1 : x.f0 < sku
  ·rw [if_pos h1] at el
   have e1 : hitAt (x :: t) sku = hitAt t sku := by
    unfold hitAt stackAt
    rw [el, List.getD_cons_succ, List.length_cons]
    simp
   have e2 : stackOf (x :: t) sku = stackOf t sku := by
    unfold stackOf
    rw [List.find?_cons_of_neg (by simp; omega)]
   have e3 : stackAt (x :: t) (lowIdx (x :: t) sku) = stackAt t (lowIdx t sku) := by
    unfold stackAt; rw [el, List.getD_cons_succ]
   rw [e1, e2, e3]
   exact ⟨ih.1, fun h => ⟨(ih.2 h).1, fun y hy => by
    rcases List.mem_cons.1 hy with rfl | hy
    ·omega
    ·exact (ih.2 h).2 y hy⟩⟩
  ·rw [if_neg h1] at el
   have e3 : stackAt (x :: t) (lowIdx (x :: t) sku) = x := by unfold stackAt; rw [el]; rfl
   by_cases h2 : x.f0 = sku
   ·have e2 : stackOf (x :: t) sku = x := by unfold stackOf; rw [List.find?_cons_of_pos (by simpa using h2)]; rfl
    refine ⟨fun _ => ⟨by rw [e2, e3], by rw [e2]; exact h2⟩, fun h => ?_⟩
    unfold hitAt at h
    rw [e3, el] at h
    simp [h2] at h
   ·have h4 : ∀ y ∈ x :: t, y.f0 ≠ sku := fun y hy => by
     rcases List.mem_cons.1 hy with rfl | hy
     ·exact h2
     ·have := hs.1 y hy; omega
    refine ⟨fun h => ?_, fun _ => ⟨?_, h4⟩⟩
    ·unfold hitAt at h
     rw [e3] at h
     simp [h2] at h
    ·unfold stackOf
     rw [List.find?_eq_none.2 (fun y hy => by simpa using h4 y hy)]; rfl
theorem stacks_facts {l : List S72} (h : stacksOk l = true) : l.Pairwise (fun a b => a.f0 < b.f0) ∧ ∀ x ∈ l, 1 ≤ x.f0 ∧ x.f0 ≤ 50 ∧ 1 ≤ x.f1 ∧ x.f1 ≤ 1000 ∧ 0 ≤ x.f2 ∧ x.f2 ≤ x.f1 := by
 unfold stacksOk at h
 rw [allFrom_iff] at h
 have hk : ∀ j, j < l.length → (1 ≤ (stackAt l j).f0 ∧ (stackAt l j).f0 ≤ 50 ∧ 1 ≤ (stackAt l j).f1 ∧ (stackAt l j).f1 ≤ 1000 ∧ 0 ≤ (stackAt l j).f2 ∧ (stackAt l j).f2 ≤ (stackAt l j).f1) ∧ (0 < j → (stackAt l (j - 1)).f0 < (stackAt l j).f0) := fun j hj => by
  have := h j (by omega) hj
  unfold stackOk at this
  simp only [Bool.and_eq_true, Bool.or_eq_true, inB_iff, decide_eq_true_eq] at this
  exact ⟨⟨this.1.1, this.1.2, this.2.1.1, this.2.1.2, this.2.2.1.1, this.2.2.1.2⟩, fun h0 => by rcases this.2.2.2 with h | h; omega; exact h⟩
 have step : ∀ (j i : Nat), i < j → j < l.length → (stackAt l i).f0 < (stackAt l j).f0 := by
  intro j
  induction j with
  | zero => intro i h; omega
  | succ j ih =>
   intro i h1 h2
   have h3 := (hk (j + 1) h2).2 (by omega)
   rw [Nat.add_sub_cancel] at h3
   by_cases e : i = j
   ·subst e; exact h3
   ·exact Int.lt_trans (ih i (by omega) (by omega)) h3
 refine ⟨List.pairwise_iff_getElem.2 fun i j hi hj hij => ?_, fun x hx => ?_⟩
 ·have := step j i hij hj
  unfold stackAt at this
  rwa [getD_at hi, getD_at hj] at this
 ·obtain ⟨j, hj, rfl⟩ := List.mem_iff_getElem.1 hx
  have := (hk j hj).1
  unfold stackAt at this
  rwa [getD_at hj] at this
structure PodFacts (p : S79) : Prop where
 id : 1 ≤ p.f0 ∧ p.f0 ≤ 999
 home : 0 ≤ p.f1 ∧ p.f1 ≤ 99
 len : p.f2.length ≤ 8
 stacks : stacksOk p.f2 = true
theorem stock_pods {l : List S79} (h : stockOk l = true) : l.length ≤ 12 ∧ ∀ i : Nat, i < l.length → PodFacts (podAtN l i) := by
 unfold stockOk at h
 simp only [Bool.and_eq_true, decide_eq_true_eq, allFrom_iff] at h
 refine ⟨h.1, fun i hi => ?_⟩
 have := h.2 i (by omega) hi
 unfold podAtOk podOk at this
 simp only [Bool.and_eq_true, inB_iff, decide_eq_true_eq] at this
 exact ⟨this.1.1, this.1.2.1, this.1.2.2.1, this.1.2.2.2⟩
theorem stackOf_bounds {l : List S72} (h : stacksOk l = true) (sku : Int) : 0 ≤ (stackOf l sku).f1 ∧ (stackOf l sku).f1 ≤ 1000 ∧ 0 ≤ (stackOf l sku).f2 ∧ (stackOf l sku).f2 ≤ (stackOf l sku).f1 := by
 have f := stacks_facts h
 unfold stackOf
 cases e : l.find? (fun x => x.f0 == sku) with
 | none => simp
 | some x =>
  have := f.2 x (List.mem_of_find?_eq_some e)
  simp only [Option.getD_some]; omega
theorem impl_stackAt_f (x y : Int) (l : List S72) (sku : Int) (hn : l.length ≤ 4194304) : Ev (fun k => impl_stackAt.f k x y l sku) ((lowIdx l sku : Nat), hitAt l sku) := by
 have key : ∀ (d i : Nat), i + d = l.length → i + lowIdx (l.drop i) sku = lowIdx l sku → Ev (fun k => impl_stackAt.l0 k sku i x y l) (((lowIdx l sku : Nat) : Int), hitAt l sku) := by
  intro d
  induction d with
  | zero =>
   intro i e hl
   refine Ev.unroll ?_
   simp only [impl_stackAt.l0]
   rw [drop_end (by omega)] at hl
   have : lowIdx l sku = i := by rw [← hl]; simp [lowIdx]
   refine Ev.ifn (by omega) (Ev.fin ?_)
   unfold hitAt
   rw [this, decide_eq_false (by omega)]; rfl
  | succ d ih =>
   intro i e hl
   have hi : i < l.length := by omega
   have ei : stackAt l i = l[i] := by unfold stackAt; exact getD_at hi
   refine Ev.unroll ?_
   simp only [impl_stackAt.l0, rd_stack, wrap_sc (show i < 9223372036854775807 by omega)]
   rw [drop_cons hi, lowIdx_cons, ← ei] at hl
   refine Ev.ifp (by omega) (Ev.ifp (by omega) (ev_ite' (fun h => ?_) (fun h => ?_)))
   ·rw [if_pos h] at hl
    exact ih (i + 1) (by omega) (by omega)
   ·rw [if_neg h] at hl
    have : lowIdx l sku = i := by omega
    refine Ev.fin ?_
    unfold hitAt
    rw [this, decide_eq_true hi, Bool.true_and]
 exact key l.length 0 (by omega) (by simp)

theorem spec_l5Stack_f (x y : Int) (l : List S72) (sku : Int) (hn : l.length ≤ 4194304) : Ev (fun k => spec_l5Stack.f k x y l sku) ((stackOf l sku).f0, (stackOf l sku).f1, (stackOf l sku).f2) := by
 have key : ∀ (d i : Nat), i + d = l.length → stackOf (l.drop i) sku = stackOf l sku → Ev (fun k => spec_l5Stack.l0 k sku i x y l) ((stackOf l sku).f0, (stackOf l sku).f1, (stackOf l sku).f2) := by
  intro d
  induction d with
  | zero =>
   intro i e hl
   refine Ev.unroll ?_
   simp only [spec_l5Stack.l0]
   rw [drop_end (by omega)] at hl
   exact Ev.ifn (by omega) (Ev.fin (by rw [← hl]; rfl))
  | succ d ih =>
   intro i e hl
   have hi : i < l.length := by omega
   have ei : stackAt l i = l[i] := by unfold stackAt; exact getD_at hi
   refine Ev.unroll ?_
   simp only [spec_l5Stack.l0, rd_stack, wrap_sc (show i < 9223372036854775807 by omega), ei]
   rw [drop_cons hi] at hl
   refine Ev.ifp (by omega) (Ev.ifp (by omega) (ev_ite' (fun h => Ev.fin ?_) (fun h => ih (i + 1) (by omega) ?_)))
   ·rw [← hl]; unfold stackOf; rw [List.find?_cons_of_pos (by simpa using h)]; rfl
   ·rw [← hl]; unfold stackOf; rw [List.find?_cons_of_neg (by simpa using h)]
 exact key l.length 0 (by omega) rfl

def countFrom (l : List S79) (sku : Int) : Nat → Nat → Int → Int
 | 0, _, acc => acc
 | d + 1, i, acc => countFrom l sku d (i + 1) (acc + (stackOf (podAtN l i).f2 sku).f1)
def freeFrom (l : List S79) (sku : Int) : Nat → Nat → Int → Int
 | 0, _, acc => acc
 | d + 1, i, acc => freeFrom l sku d (i + 1) (acc + ((stackOf (podAtN l i).f2 sku).f1 - (stackOf (podAtN l i).f2 sku).f2))
def countOf (l : List S79) (sku : Int) : Int := if stockOk l = true then countFrom l sku l.length 0 0 else 0
def freeOf (l : List S79) (sku : Int) : Int := if stockOk l = true then freeFrom l sku l.length 0 0 else 0
theorem hit_facts {l : List S72} (h : stacksOk l = true) (sku : Int) : (hitAt l sku = true → lowIdx l sku < l.length ∧ stackAt l (lowIdx l sku) = stackOf l sku) ∧ (hitAt l sku = false → (stackOf l sku).f1 = 0 ∧ (stackOf l sku).f2 = 0) := by
 have f := hit_stack (sku := sku) (stacks_facts h).1
 refine ⟨fun e => ⟨?_, (f.1 e).1.symm⟩, fun e => by rw [(f.2 e).1]; exact ⟨rfl, rfl⟩⟩
 unfold hitAt at e
 rw [Bool.and_eq_true, decide_eq_true_eq] at e
 exact e.1
theorem impl_Count_l0 (l : List S79) (sku : Int) (hok : stockOk l = true) : ∀ (d i : Nat) (acc : Int), i + d = l.length → 0 ≤ acc → acc ≤ 1000 * (i : Int) → Ev (fun k => impl_Count.l0 k sku acc l l.length i) (countFrom l sku d i acc)
 | 0, i, acc, e, h0, h1 => Ev.unroll (by
   simp only [impl_Count.l0]
   exact Ev.ifn (by omega) (Ev.now _))
 | d + 1, i, acc, e, h0, h1 => Ev.unroll (by
   have f := stock_pods hok
   have fi := f.2 i (by omega)
   have b := stackOf_bounds fi.stacks sku
   have hf := hit_facts fi.stacks sku
   simp only [impl_Count.l0, rd_pod, wrap_sc (show i < 9223372036854775807 by omega)]
   refine Ev.ifp (by omega) (Ev.ifp (by omega) (Ev.ifp (by omega) (Ev.bind (impl_stackAt_f _ _ _ sku (by have := fi.len; omega)) ?_)))
   dsimp only
   unfold countFrom
   refine ev_ite' (fun h => ?_) (fun h => ?_)
   ·have h2 := hf.1 h
    simp only [rd_stack, h2.2]
    refine Ev.ifp (by omega) (Ev.ifp (by omega) ?_)
    rw [wrap_id (by omega) (by omega)]
    exact impl_Count_l0 l sku hok d (i + 1) _ (by omega) (by omega) (by omega)
   ·rw [Bool.not_eq_true] at h
    rw [(hf.2 h).1, Int.add_zero]
    exact impl_Count_l0 l sku hok d (i + 1) _ (by omega) (by omega) (by omega))
theorem impl_Count_f (l : List S79) (sku : Int) (hn : l.length ≤ 4194304) (hx : ∀ x ∈ l, x.f2.length ≤ 4194304) : Ev (fun k => impl_Count.f k l sku) (countOf l sku) := by
 unfold impl_Count.f countOf
 exact Ev.bind (impl_StockOk_f l hn hx) (ev_ite (fun hok => impl_Count_l0 l sku hok l.length 0 0 (by omega) (by omega) (by omega)) (fun _ => Ev.now _))
theorem impl_Free_l0 (l : List S79) (sku : Int) (hok : stockOk l = true) : ∀ (d i : Nat) (acc : Int), i + d = l.length → 0 ≤ acc → acc ≤ 1000 * (i : Int) → Ev (fun k => impl_Free.l0 k sku acc l l.length i) (freeFrom l sku d i acc)
 | 0, i, acc, e, h0, h1 => Ev.unroll (by
   simp only [impl_Free.l0]
   exact Ev.ifn (by omega) (Ev.now _))
 | d + 1, i, acc, e, h0, h1 => Ev.unroll (by
   have f := stock_pods hok
   have fi := f.2 i (by omega)
   have b := stackOf_bounds fi.stacks sku
   have hf := hit_facts fi.stacks sku
   simp only [impl_Free.l0, rd_pod, wrap_sc (show i < 9223372036854775807 by omega)]
   refine Ev.ifp (by omega) (Ev.ifp (by omega) (Ev.ifp (by omega) (Ev.bind (impl_stackAt_f _ _ _ sku (by have := fi.len; omega)) ?_)))
   dsimp only
   unfold freeFrom
   refine ev_ite' (fun h => ?_) (fun h => ?_)
   ·have h2 := hf.1 h
    simp only [rd_stack, h2.2]
    refine Ev.ifp (by omega) (Ev.ifp (by omega) ?_)
    rw [wrap_id (x := (stackOf (podAtN l i).f2 sku).f1 - (stackOf (podAtN l i).f2 sku).f2) (by omega) (by omega), wrap_id (by omega) (by omega)]
    exact impl_Free_l0 l sku hok d (i + 1) _ (by omega) (by omega) (by omega)
   ·rw [Bool.not_eq_true] at h
    rw [(hf.2 h).1, (hf.2 h).2, Int.sub_self, Int.add_zero]
    exact impl_Free_l0 l sku hok d (i + 1) _ (by omega) (by omega) (by omega))
theorem impl_Free_f (l : List S79) (sku : Int) (hn : l.length ≤ 4194304) (hx : ∀ x ∈ l, x.f2.length ≤ 4194304) : Ev (fun k => impl_Free.f k l sku) (freeOf l sku) := by
 unfold impl_Free.f freeOf
 exact Ev.bind (impl_StockOk_f l hn hx) (ev_ite (fun hok => impl_Free_l0 l sku hok l.length 0 0 (by omega) (by omega) (by omega)) (fun _ => Ev.now _))

theorem impl_copyStock_f (l : List S79) (hn : l.length ≤ 4194304) (hx : ∀ x ∈ l, x.f2.length ≤ 4194304) : Ev (fun k => impl_copyStock.f k l) l := by
 have key : ∀ (d i : Nat), i + d = l.length → Ev (fun k => impl_copyStock.l0 k l (l.length : Int) i (l.take i)) l := by
  intro d
  induction d with
  | zero =>
   intro i e
   refine Ev.unroll ?_
   simp only [impl_copyStock.l0]
   exact Ev.ifn (by omega) (Ev.fin (List.take_of_length_le (by omega)))
  | succ d ih =>
   intro i e
   have hi : i < l.length := by omega
   have hb := hx _ (List.getElem_mem hi)
   have e1 : podAtN l i = l[i] := by unfold podAtN; exact getD_at hi
   refine Ev.unroll ?_
   simp only [impl_copyStock.l0, rd_pod, e1, List.nil_append, List.length_nil, List.length_take, wrap_sc (show i < 9223372036854775807 by omega)]
   refine Ev.ifp (by omega) (Ev.ifp (by omega) (Ev.ifp (by omega) (Ev.ifp (by omega) (Ev.ifp (by omega) ?_))))
   have h := ih (i + 1) (by omega)
   rw [List.take_succ_eq_append_getElem hi] at h
   exact h
 exact key l.length 0 (by omega)
theorem spec_l5Copy_f (l : List S79) (hn : l.length ≤ 4194304) (hx : ∀ x ∈ l, x.f2.length ≤ 4194304) : Ev (fun k => spec_l5Copy.f k l) l := by
 have key : ∀ (d i : Nat), i + d = l.length → Ev (fun k => spec_l5Copy.l0 k i l (l.take i)) l := by
  intro d
  induction d with
  | zero =>
   intro i e
   refine Ev.unroll ?_
   simp only [spec_l5Copy.l0]
   exact Ev.ifn (by omega) (Ev.fin (List.take_of_length_le (by omega)))
  | succ d ih =>
   intro i e
   have hi : i < l.length := by omega
   have hb := hx _ (List.getElem_mem hi)
   have e1 : podAtN l i = l[i] := by unfold podAtN; exact getD_at hi
   refine Ev.unroll ?_
   simp only [spec_l5Copy.l0, rd_pod, e1, some_bind, List.nil_append, List.length_nil, List.length_take, wrap_sc (show i < 9223372036854775807 by omega)]
   refine Ev.ifp (by omega) (Ev.ifp (by omega) (Ev.ifp (by omega) (Ev.ifp (by omega) ?_)))
   have h := ih (i + 1) (by omega)
   rw [List.take_succ_eq_append_getElem hi] at h
   exact h
 exact key l.length 0 (by omega)
def podIdx (l : List S79) (id : Int) : Int := match l.findIdx? (fun p => p.f0 == id) with
 | some i => (i : Int)
 | none => -1
theorem podIdx_bounds (l : List S79) (id : Int) : -1 ≤ podIdx l id ∧ podIdx l id < l.length := by
 unfold podIdx
 cases e : l.findIdx? (fun p => p.f0 == id) with
 | none => show -1 ≤ (-1 : Int) ∧ (-1 : Int) < l.length; omega
 | some i =>
  have := (List.findIdx?_eq_some_iff_getElem.1 e).1
  show -1 ≤ (i : Int) ∧ (i : Int) < l.length; omega
theorem podIdx_cons (p : S79) (l : List S79) (id : Int) : podIdx (p :: l) id = if p.f0 = id then 0 else if podIdx l id = -1 then -1 else podIdx l id + 1 := by
 unfold podIdx
 rw [List.findIdx?_cons]
 by_cases h : p.f0 = id
 ·simp [h]
 ·have hb : (p.f0 == id) = false := by simpa using h
  rw [hb]
  cases e : l.findIdx? (fun p => p.f0 == id) with
  | none => simp [h]
  | some i => simp [h]
theorem impl_podAt_f (l : List S79) (id : Int) (hn : l.length ≤ 4194304) : Ev (fun k => impl_podAt.f k l id) (podIdx l id) := by
 have key : ∀ (d i : Nat), i + d = l.length → Ev (fun k => impl_podAt.l0 k id l (l.length : Int) i) (if podIdx (l.drop i) id = -1 then -1 else (i : Int) + podIdx (l.drop i) id) := by
  intro d
  induction d with
  | zero =>
   intro i e
   refine Ev.unroll ?_
   simp only [impl_podAt.l0]
   rw [drop_end (by omega)]
   exact Ev.ifn (by omega) (Ev.fin (by simp [podIdx]))
  | succ d ih =>
   intro i e
   have hi : i < l.length := by omega
   have e1 : podAtN l i = l[i] := by unfold podAtN; exact getD_at hi
   have hb := podIdx_bounds (l.drop (i + 1)) id
   refine Ev.unroll ?_
   simp only [impl_podAt.l0, rd_pod, e1, wrap_sc (show i < 9223372036854775807 by omega)]
   rw [drop_cons hi, podIdx_cons]
   refine Ev.ifp (by omega) (Ev.ifp (by omega) (Ev.ifp (by omega) (ev_ite' (fun h => Ev.fin ?_) (fun h => ?_))))
   ·rw [if_pos h, if_neg (by omega)]; omega
   ·have h2 := ih (i + 1) (by omega)
    rw [if_neg h]
    refine Ev.congr (fun _ => rfl) (r := _) ?_
    by_cases h3 : podIdx (l.drop (i + 1)) id = -1
    ·rw [if_pos h3] at h2; rw [if_pos h3, if_pos rfl]; exact h2
    ·rw [if_neg h3] at h2
     rw [if_neg h3, if_neg (by omega)]
     rw [show (i : Int) + (podIdx (l.drop (i + 1)) id + 1) = ((i + 1 : Nat) : Int) + podIdx (l.drop (i + 1)) id by omega]
     exact h2
 have h := key l.length 0 (by omega)
 rw [List.drop_zero] at h
 have hb := podIdx_bounds l id
 rw [show (if podIdx l id = -1 then (-1 : Int) else ((0 : Nat) : Int) + podIdx l id) = podIdx l id by split <;> omega] at h
 exact h
theorem spec_l5Pod_f (l : List S79) (id : Int) (hn : l.length ≤ 4194304) : Ev (fun k => spec_l5Pod.f k l id) (podIdx l id) := by
 have key : ∀ (d i : Nat), i + d = l.length → Ev (fun k => spec_l5Pod.l0 k id i l) (if podIdx (l.drop i) id = -1 then -1 else (i : Int) + podIdx (l.drop i) id) := by
  intro d
  induction d with
  | zero =>
   intro i e
   refine Ev.unroll ?_
   simp only [spec_l5Pod.l0]
   rw [drop_end (by omega)]
   exact Ev.ifn (by omega) (Ev.fin (by simp [podIdx]))
  | succ d ih =>
   intro i e
   have hi : i < l.length := by omega
   have e1 : podAtN l i = l[i] := by unfold podAtN; exact getD_at hi
   have hb := podIdx_bounds (l.drop (i + 1)) id
   refine Ev.unroll ?_
   simp only [spec_l5Pod.l0, rd_pod, e1, wrap_sc (show i < 9223372036854775807 by omega)]
   rw [drop_cons hi, podIdx_cons]
   refine Ev.ifp (by omega) (Ev.ifp (by omega) (ev_ite' (fun h => Ev.fin ?_) (fun h => ?_)))
   ·rw [if_pos h, if_neg (by omega)]; omega
   ·have h2 := ih (i + 1) (by omega)
    rw [if_neg h]
    by_cases h3 : podIdx (l.drop (i + 1)) id = -1
    ·rw [if_pos h3] at h2; rw [if_pos h3, if_pos rfl]; exact h2
    ·rw [if_neg h3] at h2
     rw [if_neg h3, if_neg (by omega)]
     rw [show (i : Int) + (podIdx (l.drop (i + 1)) id + 1) = ((i + 1 : Nat) : Int) + podIdx (l.drop (i + 1)) id by omega]
     exact h2
 have h := key l.length 0 (by omega)
 rw [List.drop_zero] at h
 have hb := podIdx_bounds l id
 rw [show (if podIdx l id = -1 then (-1 : Int) else ((0 : Nat) : Int) + podIdx l id) = podIdx l id by split <;> omega] at h
 exact h
def askOk (l : List S79) (sku n : Int) : Bool := stockOk l && (inB sku 1 50 && inB n 1 1000)
def placeOf (l : List S79) (id sku n : Int) : Int × Int := if askOk l sku n = true then (if 0 ≤ podIdx l id then (podIdx l id, 0) else (-1, 2)) else (-1, 1)
theorem impl_place_f (l : List S79) (id sku n : Int) (hn : l.length ≤ 4194304) (hx : ∀ x ∈ l, x.f2.length ≤ 4194304) : Ev (fun k => impl_place.f k l id sku n) (placeOf l id sku n) := by
 have hj : Ev (fun k => impl_place.j0 k id false l) (if 0 ≤ podIdx l id then (podIdx l id, 0) else (-1, 2)) := by
  refine Ev.unroll ?_
  simp only [impl_place.j0]
  refine Ev.ifn (by decide) (Ev.bind (impl_podAt_f l id hn) ?_)
  by_cases h : 0 ≤ podIdx l id
  ·exact Ev.ifp h (Ev.fin (if_pos h).symm)
  ·exact Ev.ifn (by omega) (Ev.fin (if_neg h).symm)
 have hf : Ev (fun k => impl_place.j0 k id true l) (((-1 : Int), (1 : Int))) := by
  refine Ev.unroll ?_
  simp only [impl_place.j0]
  exact Ev.ifp (by first | rfl | trivial) (Ev.now _)
 unfold impl_place.f placeOf askOk
 refine Ev.bind (impl_StockOk_f l hn hx) ?_
 simp only [impl_in_f, some_bind]
 cases h1 : stockOk l
 ·simp only [Bool.false_and]; exact Ev.ifn (by decide) hf
 ·refine Ev.ifp (by first | rfl | trivial) ?_
  cases h2 : inB sku 1 50
  ·simp only [Bool.true_and, Bool.false_and]; exact Ev.ifn (by decide) hf
  ·refine Ev.ifp (by first | rfl | trivial) ?_
   cases h3 : inB n 1 1000
   ·exact hf
   ·exact hj
theorem spec_l5Call_f (l : List S79) (id sku n : Int) (hn : l.length ≤ 4194304) (hx : ∀ x ∈ l, x.f2.length ≤ 4194304) :
  Ev (fun k => spec_l5Call.f k l id sku n) (if askOk l sku n = true then (if 0 ≤ podIdx l id then (podIdx l id, (stackOf (rd_T79 l (podIdx l id)).f2 sku).f0, (stackOf (rd_T79 l (podIdx l id)).f2 sku).f1, (stackOf (rd_T79 l (podIdx l id)).f2 sku).f2, 0) else (0, 0, 0, 0, 2)) else (0, 0, 0, 0, 1)) := by
 have hb := podIdx_bounds l id
 have hj : Ev (fun k => spec_l5Call.j0 k id sku false l) (if 0 ≤ podIdx l id then (podIdx l id, (stackOf (rd_T79 l (podIdx l id)).f2 sku).f0, (stackOf (rd_T79 l (podIdx l id)).f2 sku).f1, (stackOf (rd_T79 l (podIdx l id)).f2 sku).f2, 0) else (0, 0, 0, 0, 2)) := by
  refine Ev.unroll ?_
  simp only [spec_l5Call.j0]
  refine Ev.ifn (by decide) (Ev.bind (spec_l5Pod_f l id hn) ?_)
  by_cases h : 0 ≤ podIdx l id
  ·rw [if_pos h]
   refine Ev.ifn (by omega) (Ev.ifp h (Ev.ifp hb.2 (Ev.bind (spec_l5Stack_f _ _ (rd_T79 l (podIdx l id)).f2 sku ?_) (Ev.now _))))
   obtain ⟨i, hi⟩ : ∃ i : Nat, podIdx l id = (i : Int) := ⟨(podIdx l id).toNat, by omega⟩
   rw [hi, rd_pod]
   unfold podAtN
   rw [getD_at (by omega)]
   exact hx _ (List.getElem_mem _)
  ·rw [if_neg h]; exact Ev.ifp (by omega) (Ev.now _)
 have hf : Ev (fun k => spec_l5Call.j0 k id sku true l) (((0 : Int), (0 : Int), (0 : Int), (0 : Int), (1 : Int))) := by
  refine Ev.unroll ?_
  simp only [spec_l5Call.j0]
  exact Ev.ifp (by first | rfl | trivial) (Ev.now _)
 unfold spec_l5Call.f askOk
 refine Ev.bind (spec_StockOk_f l hn hx) ?_
 simp only [spec_l1In_f, some_bind]
 cases h1 : stockOk l
 ·simp only [Bool.false_and]; exact Ev.ifn (by decide) hf
 ·refine Ev.ifp (by first | rfl | trivial) ?_
  cases h2 : inB sku 1 50
  ·simp only [Bool.true_and, Bool.false_and]; exact Ev.ifn (by decide) hf
  ·refine Ev.ifp (by first | rfl | trivial) ?_
   cases h3 : inB n 1 1000
   ·exact hf
   ·exact hj
def insS (x : S72) : Bool → List S72 → List S72
 | b, [] => if b = true then [] else [x]
 | b, y :: ys => if (!b && decide (y.f0 ≥ x.f0)) = true then x :: (if y.f0 = x.f0 then insS x true ys else y :: insS x true ys) else (if y.f0 = x.f0 then insS x b ys else y :: insS x b ys)
theorem spec_l5With_f (l : List S72) (x : S72) (hn : l.length ≤ 4194304) : Ev (fun k => spec_l5With.f k l x.f0 x.f1 x.f2) (insS x (x.f1 == 0) l) := by
 have key : ∀ (d i : Nat) (acc : List S72) (b : Bool), i + d = l.length → acc.length ≤ 2 * i → Ev (fun k => spec_l5With.l0 k l acc b i x.f0 x.f1 x.f2) (acc ++ insS x b (l.drop i)) := by
  intro d
  induction d with
  | zero =>
   intro i acc b e ha
   refine Ev.unroll ?_
   simp only [spec_l5With.l0]
   rw [drop_end (by omega)]
   refine Ev.ifn (by omega) ?_
   cases b
   ·refine Ev.ifn (by decide) (Ev.ifp (by omega) (Ev.fin ?_))
    rfl
   ·exact Ev.ifp (by first | rfl | trivial) (Ev.fin (by simp [insS]))
  | succ d ih =>
   intro i acc b e ha
   have hi : i < l.length := by omega
   have ei : stackAt l i = l[i] := by unfold stackAt; exact getD_at hi
   rw [drop_cons hi]
   refine Ev.unroll ?_
   simp only [spec_l5With.l0, rd_stack, ei]
   refine Ev.ifp (by omega) ?_
   have hw := wrap_sc (show i < 9223372036854775807 by omega)
   have hno : ∀ b : Bool, (!b && decide (l[i].f0 ≥ x.f0)) = false → Ev (fun k => spec_l5With.j1 k l acc b i false x.f0 x.f1 x.f2) (acc ++ insS x b (l[i] :: l.drop (i + 1))) := by
    intro b hb
    refine Ev.unroll ?_
    simp only [spec_l5With.j1, rd_stack, ei, hw]
    refine Ev.ifn (by decide) (Ev.ifp (by omega) (Ev.ifp (by omega) ?_))
    unfold insS
    rw [hb, if_neg (by decide)]
    by_cases h2 : l[i].f0 = x.f0
    ·rw [if_pos h2]; exact Ev.ifp h2 (ih (i + 1) acc b (by omega) (by omega))
    ·rw [if_neg h2]
     refine Ev.ifn h2 (Ev.ifp (by omega) ?_)
     have h3 := ih (i + 1) (acc ++ [l[i]]) b (by omega) (by simp; omega)
     rw [List.append_assoc] at h3
     exact h3
   cases b
   ·refine Ev.ifn (by decide) (Ev.ifp (by omega) ?_)
    cases h1 : decide (l[i].f0 ≥ x.f0)
    ·exact hno false (by rw [h1]; rfl)
    ·refine Ev.unroll ?_
     simp only [spec_l5With.j1, rd_stack, ei, hw, some_bind]
     refine Ev.ifp (by first | rfl | trivial) (Ev.ifp (by omega) (Ev.ifp (by omega) (Ev.ifp (by omega) ?_)))
     unfold insS
     rw [h1, if_pos (by decide)]
     by_cases h2 : l[i].f0 = x.f0
     ·rw [if_pos h2]
      refine Ev.ifp h2 ?_
      have h3 := ih (i + 1) (acc ++ [x]) true (by omega) (by simp; omega)
      rw [List.append_assoc] at h3
      exact h3
     ·rw [if_neg h2]
      refine Ev.ifn h2 (Ev.ifp (by simp; omega) ?_)
      have h3 := ih (i + 1) (acc ++ [x] ++ [l[i]]) true (by omega) (by simp; omega)
      rw [show acc ++ [x] ++ [l[i]] ++ insS x true (l.drop (i + 1)) = acc ++ x :: l[i] :: insS x true (l.drop (i + 1)) by simp] at h3
      exact h3
   ·exact Ev.ifp (by first | rfl | trivial) (hno true (by simp))
 have h := key l.length 0 [] (x.f1 == 0) (by omega) (by simp)
 rw [List.drop_zero, List.nil_append] at h
 exact h
theorem spec_l5Put_f (l : List S79) (i : Int) (x : S72) (hn : l.length ≤ 4194304) (hx : ∀ x ∈ l, x.f2.length ≤ 4194304) (h0 : 0 ≤ i) (h1 : i < l.length) :
  Ev (fun k => spec_l5Put.f k l i x.f0 x.f1 x.f2) (l.set i.toNat ⟨(rd_T79 l i).f0, (rd_T79 l i).f1, insS x (x.f1 == 0) (rd_T79 l i).f2⟩) := by
 unfold spec_l5Put.f
 have hb : (rd_T79 l i).f2.length ≤ 4194304 := by
  unfold rd_T79
  rw [getD_at (show i.toNat < l.length by omega)]
  exact hx _ (List.getElem_mem _)
 exact Ev.bind (spec_l5Copy_f l hn hx) (Ev.ifp h0 (Ev.ifp h1 (Ev.bind (spec_l5With_f _ x hb) (Ev.now _))))
theorem insS_gone (x : S72) : ∀ (l : List S72), (∀ y ∈ l, y.f0 ≠ x.f0) → insS x true l = l
 | [], _ => rfl
 | y :: ys, h => by
  unfold insS
  rw [if_neg (by simp), if_neg (h y List.mem_cons_self), insS_gone x ys (fun z hz => h z (List.mem_cons_of_mem _ hz))]
theorem insS_hit (x : S72) (b : Bool) : ∀ {l : List S72}, l.Pairwise (fun a b => a.f0 < b.f0) → hitAt l x.f0 = true → insS x b l = if b = true then l.take (lowIdx l x.f0) ++ l.drop (lowIdx l x.f0 + 1) else l.set (lowIdx l x.f0) x
 | [], _, h => by simp [hitAt] at h
 | y :: t, hp, h => by
  have hs := List.pairwise_cons.1 hp
  have el := lowIdx_cons y t x.f0
  by_cases h1 : y.f0 < x.f0
  ·rw [if_pos h1] at el
   have e1 : hitAt t x.f0 = true := by
    rw [← h]
    unfold hitAt stackAt
    rw [el, List.getD_cons_succ, List.length_cons]
    simp
   have ih := insS_hit x b hs.2 e1
   unfold insS
   rw [if_neg (by simp; omega), if_neg (by omega), ih, el]
   cases b <;> simp
  ·rw [if_neg h1] at el
   have h2 : y.f0 = x.f0 := by
    unfold hitAt stackAt at h
    rw [el] at h
    simpa using h
   have hg : insS x true t = t := insS_gone x t (fun z hz => by have := hs.1 z hz; omega)
   rw [el]
   cases b
   ·unfold insS
    rw [if_pos (by simp; omega), if_pos h2, hg]
    rfl
   ·unfold insS
    rw [if_neg (by simp), if_pos h2, hg]
    rfl
theorem insS_new (x : S72) : ∀ {l : List S72}, l.Pairwise (fun a b => a.f0 < b.f0) → (∀ y ∈ l, y.f0 ≠ x.f0) → insS x false l = l.take (lowIdx l x.f0) ++ x :: l.drop (lowIdx l x.f0)
 | [], _, _ => rfl
 | y :: t, hp, h => by
  have hs := List.pairwise_cons.1 hp
  have el := lowIdx_cons y t x.f0
  have h2 := h y List.mem_cons_self
  have ht : ∀ z ∈ t, z.f0 ≠ x.f0 := fun z hz => h z (List.mem_cons_of_mem _ hz)
  by_cases h1 : y.f0 < x.f0
  ·rw [if_pos h1] at el
   have ih := insS_new x hs.2 ht
   unfold insS
   rw [if_neg (by simp; omega), if_neg h2, ih, el]
   rfl
  ·rw [if_neg h1] at el
   unfold insS
   rw [if_pos (by simp; omega), if_neg h2, insS_gone x t ht, el]
   rfl

def heldOf (l : List S79) (id sku n more : Int) : List S79 × Int :=
 if askOk l sku n = true then (if 0 ≤ podIdx l id then
  (if hitAt (rd_T79 l (podIdx l id)).f2 sku = true ∧ 0 ≤ (stackOf (rd_T79 l (podIdx l id)).f2 sku).f2 + more ∧ (stackOf (rd_T79 l (podIdx l id)).f2 sku).f2 + more ≤ (stackOf (rd_T79 l (podIdx l id)).f2 sku).f1 then
   (l.set (podIdx l id).toNat ⟨(rd_T79 l (podIdx l id)).f0, (rd_T79 l (podIdx l id)).f1, (rd_T79 l (podIdx l id)).f2.set (lowIdx (rd_T79 l (podIdx l id)).f2 sku) ⟨sku, (stackOf (rd_T79 l (podIdx l id)).f2 sku).f1, (stackOf (rd_T79 l (podIdx l id)).f2 sku).f2 + more⟩⟩, 0)
  else (l, 3)) else (l, 2)) else (l, 1)
structure AskFacts (l : List S79) (id sku n : Int) : Prop where
 len : l.length ≤ 12
 idx : podIdx l id < l.length
 pod : podOk (rd_T79 l (podIdx l id)) = true
 st : stacksOk (rd_T79 l (podIdx l id)).f2 = true
 st8 : (rd_T79 l (podIdx l id)).f2.length ≤ 8
 sku : 1 ≤ sku ∧ sku ≤ 50
 n : 1 ≤ n ∧ n ≤ 1000
theorem ask_facts {l : List S79} {id sku n : Int} (h : askOk l sku n = true) (h0 : 0 ≤ podIdx l id) : AskFacts l id sku n := by
 unfold askOk at h
 simp only [Bool.and_eq_true, inB_iff] at h
 have hb := podIdx_bounds l id
 obtain ⟨i, hi⟩ : ∃ i : Nat, podIdx l id = (i : Int) := ⟨(podIdx l id).toNat, by omega⟩
 have hs := h.1
 unfold stockOk at hs
 simp only [Bool.and_eq_true, decide_eq_true_eq, allFrom_iff] at hs
 have hp := hs.2 i (by omega) (by omega)
 unfold podAtOk at hp
 simp only [Bool.and_eq_true] at hp
 have hq := hp.1
 have hq2 := hq
 unfold podOk at hq2
 simp only [Bool.and_eq_true, decide_eq_true_eq] at hq2
 rw [← rd_pod] at hq hq2
 rw [← hi] at hq hq2
 exact ⟨hs.1, hb.2, hq, hq2.2.2.2, hq2.2.2.1, h.2.1, h.2.2⟩
theorem impl_held_f (l : List S79) (id sku n more : Int) (hn : l.length ≤ 4194304) (hx : ∀ x ∈ l, x.f2.length ≤ 4194304) (hm : more = n ∨ more = -n) : Ev (fun k => impl_held.f k l id sku n more) (heldOf l id sku n more) := by
 unfold impl_held.f heldOf
 refine Ev.bind (impl_copyStock_f l hn hx) (Ev.bind (impl_place_f l id sku n hn hx) ?_)
 unfold placeOf
 by_cases ha : askOk l sku n = true
 ·rw [if_pos ha, if_pos ha]
  by_cases h0 : 0 ≤ podIdx l id
  ·have f := ask_facts ha h0
   rw [if_pos h0, if_pos h0]
   have hf := stackOf_bounds f.st sku
   have hh := hit_facts f.st sku
   have hs := hit_stack (sku := sku) (stacks_facts f.st).1
   refine Ev.ifp (by first | rfl | trivial) (Ev.ifp h0 (Ev.ifp f.idx (Ev.bind (impl_stackAt_f _ _ (rd_T79 l (podIdx l id)).f2 sku (by have := f.st8; omega)) ?_)))
   generalize hp : rd_T79 l (podIdx l id) = p at *
   have hfn := f.n
   cases hit : hitAt p.f2 sku
   ·refine Ev.ifn (by simp) (Ev.fin ?_)
    rw [if_neg (fun h => by cases h.1)]
   ·have h1 := hh.1 hit
    have h2 := hs.1 hit
    have e1 : rd_T72 p.f2 ((lowIdx p.f2 sku : Nat) : Int) = stackOf p.f2 sku := by rw [rd_stack]; exact h1.2
    have hw : wrap64 ((stackOf p.f2 sku).f2 + more) = (stackOf p.f2 sku).f2 + more := wrap_id (by omega) (by omega)
    refine Ev.ifp (by first | rfl | trivial) (Ev.ifp (by omega) (Ev.ifp (by omega) ?_))
    simp only [e1, impl_in_f, some_bind, hw, Int.toNat_natCast]
    by_cases hc : 0 ≤ (stackOf p.f2 sku).f2 + more ∧ (stackOf p.f2 sku).f2 + more ≤ (stackOf p.f2 sku).f1
    ·refine Ev.ifp (inB_iff.2 hc) (Ev.fin ?_)
     rw [if_pos (by exact ⟨by first | rfl | trivial, hc⟩), h2.2]
    ·refine Ev.ifn (fun h => hc (inB_iff.1 h)) (Ev.fin ?_)
     rw [if_neg (fun h => hc h.2)]
  ·rw [if_neg h0, if_neg h0]
   exact Ev.ifn (by decide) (Ev.now _)
 ·rw [if_neg ha, if_neg ha]
  exact Ev.ifn (by decide) (Ev.now _)
theorem impl_Hold_f (l : List S79) (id sku n : Int) (hn : l.length ≤ 4194304) (hx : ∀ x ∈ l, x.f2.length ≤ 4194304) : Ev (fun k => impl_Hold.f k l id sku n) (heldOf l id sku n n) := by
 unfold impl_Hold.f
 exact Ev.bind (impl_held_f l id sku n n hn hx (.inl rfl)) (Ev.now _)
theorem impl_Release_f (l : List S79) (id sku n : Int) (hn : l.length ≤ 4194304) (hx : ∀ x ∈ l, x.f2.length ≤ 4194304) : Ev (fun k => impl_Release.f k l id sku n) (heldOf l id sku n (-n)) := by
 unfold impl_Release.f
 simp only [impl_in_f, some_bind]
 cases h : inB n 1 1000
 ·refine Ev.ifn (by decide) (Ev.bind (impl_copyStock_f l hn hx) (Ev.fin ?_))
  unfold heldOf askOk
  rw [h, Bool.and_false, Bool.and_false, if_neg (by decide)]
 ·have hb := inB_iff.1 h
  rw [wrap_id (x := -n) (by omega) (by omega)]
  exact Ev.ifp rfl (Ev.bind (impl_held_f l id sku n (-n) hn hx (.inr rfl)) (Ev.now _))
theorem set_big {l : List S79} (h : l.length ≤ 4194304 ∧ ∀ x ∈ l, x.f2.length ≤ 4194304) (i : Nat) (p : S79) (hp : p.f2.length ≤ 4194304) : (l.set i p).length ≤ 4194304 ∧ ∀ x ∈ l.set i p, x.f2.length ≤ 4194304 :=
 ⟨by simpa using h.1, fun x hx => by
  rcases List.mem_or_eq_of_mem_set hx with hx | rfl
  ·exact h.2 x hx
  ·exact hp⟩

def takenStacks (s : List S72) (sku n : Int) : List S72 := if (stackOf s sku).f1 - n = 0 then s.take (lowIdx s sku) ++ s.drop (lowIdx s sku + 1) else s.set (lowIdx s sku) ⟨sku, (stackOf s sku).f1 - n, (stackOf s sku).f2 - n⟩
def takeOf (l : List S79) (id sku n : Int) : List S79 × Int :=
 if askOk l sku n = true then (if 0 ≤ podIdx l id then
  (if hitAt (rd_T79 l (podIdx l id)).f2 sku = true ∧ n ≤ (stackOf (rd_T79 l (podIdx l id)).f2 sku).f2 then
   (l.set (podIdx l id).toNat ⟨(rd_T79 l (podIdx l id)).f0, (rd_T79 l (podIdx l id)).f1, takenStacks (rd_T79 l (podIdx l id)).f2 sku n⟩, 0)
  else (l, 3)) else (l, 2)) else (l, 1)
theorem lowIdx_set (s : List S72) (sku : Int) (j : Nat) (x : S72) (hx : ∀ h : j < s.length, x.f0 = s[j].f0) : lowIdx (s.set j x) sku = lowIdx s sku := by
 induction s generalizing j with
 | nil => simp
 | cons y t ih =>
  cases j with
  | zero =>
   have := hx (by simp)
   simp only [List.getElem_cons_zero] at this
   rw [List.set_cons_zero, lowIdx_cons, lowIdx_cons, this]
  | succ j =>
   rw [List.set_cons_succ, lowIdx_cons, lowIdx_cons, ih j (fun h => by have := hx (by simp; omega); simpa using this)]
theorem podIdx_set (l : List S79) (id : Int) (j : Nat) (x : S79) (hx : ∀ h : j < l.length, x.f0 = l[j].f0) : podIdx (l.set j x) id = podIdx l id := by
 induction l generalizing j with
 | nil => simp
 | cons y t ih =>
  cases j with
  | zero =>
   have := hx (by simp)
   simp only [List.getElem_cons_zero] at this
   rw [List.set_cons_zero, podIdx_cons, podIdx_cons, this]
  | succ j =>
   rw [List.set_cons_succ, podIdx_cons, podIdx_cons, ih j (fun h => by have := hx (by simp; omega); simpa using this)]
theorem rd_pod_get {l : List S79} {i : Int} (h0 : 0 ≤ i) (h1 : i < l.length) : rd_T79 l i = l[i.toNat]'(by omega) := by
 unfold rd_T79; exact getD_at (by omega)
theorem rd_pod_set {l : List S79} {i : Int} (h0 : 0 ≤ i) (h1 : i < l.length) (p : S79) : rd_T79 (l.set i.toNat p) i = p := by
 unfold rd_T79
 rw [getD_at (by rw [List.length_set]; omega), List.getElem_set_self]
theorem impl_TakeOut_f (l : List S79) (id sku n : Int) (hn : l.length ≤ 4194304) (hx : ∀ x ∈ l, x.f2.length ≤ 4194304) : Ev (fun k => impl_TakeOut.f k l id sku n) (takeOf l id sku n) := by
 unfold impl_TakeOut.f
 refine Ev.bind (impl_Release_f l id sku n hn hx) ?_
 unfold heldOf takeOf
 by_cases ha : askOk l sku n = true
 ·rw [if_pos ha, if_pos ha]
  by_cases h0 : 0 ≤ podIdx l id
  ·have f := ask_facts ha h0
   rw [if_pos h0, if_pos h0]
   have hf := stackOf_bounds f.st sku
   have hh := hit_facts f.st sku
   have hs := hit_stack (sku := sku) (stacks_facts f.st).1
   have hfn := f.n
   have h8 := f.st8
   have hidx := f.idx
   have hg := rd_pod_get h0 f.idx
   generalize hp : rd_T79 l (podIdx l id) = p at *
   by_cases hc : hitAt p.f2 sku = true ∧ n ≤ (stackOf p.f2 sku).f2
   ·rw [if_pos (show hitAt p.f2 sku = true ∧ 0 ≤ (stackOf p.f2 sku).f2 + -n ∧ (stackOf p.f2 sku).f2 + -n ≤ (stackOf p.f2 sku).f1 from ⟨hc.1, by omega, by omega⟩), if_pos hc]
    have h1 := hh.1 hc.1
    have h2 := hs.1 hc.1
    have ei : podIdx (l.set (podIdx l id).toNat ⟨p.f0, p.f1, p.f2.set (lowIdx p.f2 sku) ⟨sku, (stackOf p.f2 sku).f1, (stackOf p.f2 sku).f2 + -n⟩⟩) id = podIdx l id := podIdx_set l id _ _ (fun h => by rw [hg])
    have er := rd_pod_set h0 hidx ⟨p.f0, p.f1, p.f2.set (lowIdx p.f2 sku) ⟨sku, (stackOf p.f2 sku).f1, (stackOf p.f2 sku).f2 + -n⟩⟩
    have el : lowIdx (p.f2.set (lowIdx p.f2 sku) ⟨sku, (stackOf p.f2 sku).f1, (stackOf p.f2 sku).f2 + -n⟩) sku = lowIdx p.f2 sku := lowIdx_set _ _ _ _ (fun h => by
     have e9 : stackOf p.f2 sku = p.f2[lowIdx p.f2 sku] := by rw [h2.1]; unfold stackAt; exact getD_at h
     show sku = (p.f2[lowIdx p.f2 sku]).f0
     rw [← e9]; exact h2.2.symm)
    have es : rd_T72 (p.f2.set (lowIdx p.f2 sku) ⟨sku, (stackOf p.f2 sku).f1, (stackOf p.f2 sku).f2 + -n⟩) ((lowIdx p.f2 sku : Nat) : Int) = ⟨sku, (stackOf p.f2 sku).f1, (stackOf p.f2 sku).f2 + -n⟩ := by
     rw [rd_stack]; unfold stackAt
     rw [getD_at (by rw [List.length_set]; exact h1.1), List.getElem_set_self]
    refine Ev.ifp (by first | rfl | trivial) (Ev.bind (impl_podAt_f _ id (by simpa using hn)) ?_)
    rw [ei]
    refine Ev.ifp h0 (Ev.ifp (by simpa using hidx) ?_)
    rw [er]
    refine Ev.bind (impl_stackAt_f _ _ _ sku (by simp only [List.length_set]; omega)) ?_
    rw [el]
    refine Ev.ifp (by omega) (Ev.ifp (by simp only [List.length_set]; omega) (Ev.const ?_))
    unfold impl_TakeOut.g takenStacks
    simp only [er, es, wrap_id (x := (stackOf p.f2 sku).f1 - n) (by omega) (by omega), Int.toNat_natCast, List.length_set, wrap_sc (show lowIdx p.f2 sku < 9223372036854775807 by omega), List.set_set]
    by_cases hz : (stackOf p.f2 sku).f1 - n = 0
    ·rw [if_pos hz, if_pos hz, if_pos (by omega), if_pos (by omega), if_pos (by omega)]
     congr 3
     rw [List.nil_append, List.take_set_of_le (Nat.le_refl _), List.drop_set_of_lt (by omega)]
    ·rw [if_neg hz, if_neg hz, Int.sub_eq_add_neg]
     rfl
   ·rw [if_neg (fun h => hc ⟨h.1, by omega⟩), if_neg hc]
    exact Ev.ifn (by simp) (Ev.now _)
  ·rw [if_neg h0, if_neg h0]
   exact Ev.ifn (by simp) (Ev.now _)
 ·rw [if_neg ha, if_neg ha]
  exact Ev.ifn (by simp) (Ev.now _)
theorem spec_TakeOut_f (l : List S79) (id sku n : Int) (hn : l.length ≤ 4194304) (hx : ∀ x ∈ l, x.f2.length ≤ 4194304) : Ev (fun k => spec_TakeOut.f k l id sku n) (takeOf l id sku n) := by
 unfold spec_TakeOut.f takeOf
 refine Ev.bind (spec_l5Call_f l id sku n hn hx) ?_
 by_cases ha : askOk l sku n = true
 ·rw [if_pos ha, if_pos ha]
  by_cases h0 : 0 ≤ podIdx l id
  ·have f := ask_facts ha h0
   rw [if_pos h0, if_pos h0]
   have hf := stackOf_bounds f.st sku
   have hh := hit_facts f.st sku
   have hs := hit_stack (sku := sku) (stacks_facts f.st).1
   have hfn := f.n
   have hst := (stacks_facts f.st).1
   have h8 := f.st8
   refine Ev.ifp (by first | rfl | trivial) ?_
   have hput := spec_l5Put_f l (podIdx l id) ⟨(stackOf (rd_T79 l (podIdx l id)).f2 sku).f0, (stackOf (rd_T79 l (podIdx l id)).f2 sku).f1 - n, (stackOf (rd_T79 l (podIdx l id)).f2 sku).f2 - n⟩ hn hx h0 f.idx
   generalize hp : rd_T79 l (podIdx l id) = p at *
   simp only [wrap_id (x := (stackOf p.f2 sku).f2 - n) (by omega) (by omega), wrap_id (x := (stackOf p.f2 sku).f1 - n) (by omega) (by omega)]
   cases hit : hitAt p.f2 sku
   ·have h1 := hh.2 hit
    refine Ev.ifp (by omega) (Ev.bind (spec_l5Copy_f l hn hx) (Ev.fin ?_))
    rw [if_neg (fun h => by cases h.1)]
   ·have h2 := hs.1 hit
    by_cases hc : (stackOf p.f2 sku).f2 < n
    ·refine Ev.ifp hc (Ev.bind (spec_l5Copy_f l hn hx) (Ev.fin ?_))
     rw [if_neg (fun h => by omega)]
    ·refine Ev.ifn hc (Ev.bind hput (Ev.fin ?_))
     rw [if_pos ⟨rfl, by omega⟩]
     have hi := insS_hit ⟨(stackOf p.f2 sku).f0, (stackOf p.f2 sku).f1 - n, (stackOf p.f2 sku).f2 - n⟩ ((stackOf p.f2 sku).f1 - n == 0) hst (by show hitAt p.f2 (stackOf p.f2 sku).f0 = true; rw [h2.2]; exact hit)
     dsimp only at hi
     rw [hi, h2.2]
     unfold takenStacks
     by_cases hz : (stackOf p.f2 sku).f1 - n = 0
     ·rw [if_pos hz, if_pos (by simpa using hz)]
     ·rw [if_neg hz, if_neg (by simpa using hz)]
  ·rw [if_neg h0, if_neg h0]
   refine Ev.ifn (by decide) (Ev.bind (spec_l5Copy_f l hn hx) (Ev.now _))
 ·rw [if_neg ha, if_neg ha]
  exact Ev.ifn (by decide) (Ev.bind (spec_l5Copy_f l hn hx) (Ev.now _))

def BigS (l : List S79) : Prop := l.length ≤ 4194304 ∧ ∀ x ∈ l, x.f2.length ≤ 4194304
theorem heldOf_big (l : List S79) (id sku n more : Int) (h : BigS l) : BigS (heldOf l id sku n more).1 := by
 unfold heldOf
 split
 ·split
  ·rename_i ha h0
   have f := ask_facts ha h0
   split
   ·refine ⟨by simp only [List.length_set]; exact h.1, fun x hx => ?_⟩
    rcases List.mem_or_eq_of_mem_set hx with hx | rfl
    ·exact h.2 x hx
    ·have := f.st8; simp only [List.length_set]; omega
   ·exact h
  ·exact h
 ·exact h
def SmS (l : List S79) : Prop := l.length ≤ 100 ∧ ∀ x ∈ l, x.f2.length ≤ 100
theorem SmS.big {l : List S79} (h : SmS l) : BigS l := ⟨by have := h.1; omega, fun x hx => by have := h.2 x hx; omega⟩
theorem l5Draw_l1_ok (b : List Int) (hb : b.length ≤ 1048576) (id : Nat) (hid : id < 6)
  (K : ∀ (l : List S79) (i s : Int), 0 ≤ i → l.length ≤ id + 1 → (∀ x ∈ l, x.f2.length ≤ 10) → ∃ (r : List S79) (i' s' : Int), Ev (fun k => spec_l5Draw.l0 k ((id + 1 : Nat) : Int) b i s l) (r, i', s') ∧ 0 ≤ i' ∧ r.length ≤ 10 ∧ ∀ x ∈ r, x.f2.length ≤ 10) :
  ∀ (d j : Nat) (i s p0 p1 : Int) (l : List S79) (st : List S72), j + d = 6 → 0 ≤ i → l.length ≤ id → (∀ x ∈ l, x.f2.length ≤ 10) → st.length ≤ j → ∃ (r : List S79) (i' s' : Int), Ev (fun k => spec_l5Draw.l1 k id j b i s l p0 p1 st) (r, i', s') ∧ 0 ≤ i' ∧ r.length ≤ 10 ∧ ∀ x ∈ r, x.f2.length ≤ 10 := by
 intro d
 induction d with
 | zero =>
  intro j i s p0 p1 l st e hi hl hx hs
  obtain ⟨r, i', s', er, h⟩ := K (l ++ [⟨p0, p1, st⟩]) i s hi (by simp; omega) (fun x hx2 => by
   rcases List.mem_append.1 hx2 with h | h
   ·exact hx x h
   ·have : x = ⟨p0, p1, st⟩ := by simpa using h
    subst this; show st.length ≤ 10; omega)
  refine ⟨r, i', s', Ev.unroll ?_, h⟩
  simp only [spec_l5Draw.l1, wrap_sc (show id < 9223372036854775807 by omega)]
  exact Ev.ifn (by omega) (Ev.ifp (by omega) er)
 | succ d ih =>
  intro j i s p0 p1 l st e hi hl hx hs
  obtain ⟨v, i1, s1, e1, hi1, hv⟩ := l1Int_ok b i s [0, 0, 1, 3, 5, 12] hi hb (by decide) (by decide)
  have hv2 : v ≤ 12 := by simp at hv; omega
  by_cases h0 : v > 0
  ·obtain ⟨y, i2, s2, e2, hi2, _⟩ := l1Below_ok b i1 s1 (wrap64 (v + 1)) hi1 hb
   obtain ⟨z, i3, s3, e3, hi3, _⟩ := l1Int_ok b i2 s2 [0, 0, 0, y] hi2 hb (by simp) (by simp)
   obtain ⟨r, i', s', er, h⟩ := ih (j + 1) i3 s3 p0 p1 l (st ++ [⟨(j : Int), v, z⟩]) (by omega) hi3 hl hx (by simp; omega)
   refine ⟨r, i', s', Ev.unroll ?_, h⟩
   simp only [spec_l5Draw.l1, e1, some_bind, e2, e3, wrap_sc (show j < 9223372036854775807 by omega)]
   exact Ev.ifp (by omega) (Ev.ifp h0 (Ev.ifp (by omega) er))
  ·obtain ⟨r, i', s', er, h⟩ := ih (j + 1) i1 s1 p0 p1 l st (by omega) hi1 hl hx (by omega)
   refine ⟨r, i', s', Ev.unroll ?_, h⟩
   simp only [spec_l5Draw.l1, e1, some_bind, wrap_sc (show j < 9223372036854775807 by omega)]
   exact Ev.ifp (by omega) (Ev.ifn h0 er)
theorem l5Draw_l0_ok (b : List Int) (hb : b.length ≤ 1048576) : ∀ (d id : Nat) (i s : Int) (l : List S79), id + d = 6 → 0 ≤ i → l.length ≤ id → (∀ x ∈ l, x.f2.length ≤ 10) → ∃ (r : List S79) (i' s' : Int), Ev (fun k => spec_l5Draw.l0 k id b i s l) (r, i', s') ∧ 0 ≤ i' ∧ r.length ≤ 10 ∧ ∀ x ∈ r, x.f2.length ≤ 10 := by
 intro d
 induction d with
 | zero =>
  intro id i s l e hi hl hx
  refine ⟨l, i, s, Ev.unroll ?_, hi, by omega, hx⟩
  simp only [spec_l5Draw.l0]
  exact Ev.ifn (by omega) (Ev.now _)
 | succ d ih =>
  intro id i s l e hi hl hx
  obtain ⟨y, i1, s1, e1, hi1⟩ := l1Once_ok b i s 4 hi hb
  cases y with
  | true =>
   obtain ⟨r, i', s', er, h⟩ := ih (id + 1) i1 s1 l (by omega) hi1 (by omega) hx
   refine ⟨r, i', s', Ev.unroll ?_, h⟩
   simp only [spec_l5Draw.l0, e1, some_bind, wrap_sc (show id < 9223372036854775807 by omega)]
   exact Ev.ifp (by omega) (Ev.ifp trivial er)
  | false =>
   obtain ⟨r, i', s', er, h⟩ := l5Draw_l1_ok b hb id (by omega) (fun l i s h1 h2 h3 => ih (id + 1) i s l (by omega) h1 h2 h3) 5 1 i1 s1 (wrap64 ((id : Int) * 10)) (wrap64 (20 - (id : Int))) l [] (by omega) hi1 hl hx (by simp)
   refine ⟨r, i', s', Ev.unroll ?_, h⟩
   simp only [spec_l5Draw.l0, e1, some_bind]
   exact Ev.ifp (by omega) (Ev.ifn (by decide) er)
theorem l5Draw_ok (b : List Int) (hb : b.length ≤ 1048576) (i s : Int) (hi : 0 ≤ i) : ∃ (r : List S79) (i' s' : Int), Ev (fun k => spec_l5Draw.f k b i s) (r, i', s') ∧ 0 ≤ i' ∧ r.length ≤ 10 ∧ ∀ x ∈ r, x.f2.length ≤ 10 :=
 l5Draw_l0_ok b hb 5 1 i s [] (by omega) hi (by simp) (by simp)
theorem l5Bend_ok (b : List Int) (hb : b.length ≤ 1048576) (i s : Int) (hi : 0 ≤ i) (l : List S79) (hl : l.length ≤ 10) (hx : ∀ x ∈ l, x.f2.length ≤ 10) : ∃ (r : List S79) (i' s' : Int), Ev (fun k => spec_l5Bend.f k b i s l) (r, i', s') ∧ 0 ≤ i' ∧ SmS r := by
 have hc := spec_l5Copy_f l (by omega) (fun x h => by have := hx x h; omega)
 have h0 : SmS l := ⟨by omega, fun x h => by have := hx x h; omega⟩
 unfold spec_l5Bend.f
 by_cases c0 : (l.length : Int) = 0
 ·exact ⟨l, i, s, Ev.bind hc (Ev.ifp c0 (Ev.now _)), hi, h0⟩
 ·obtain ⟨x, i1, s1, e1, hi1, x0, x1, _⟩ := l1Below_ok b i s (l.length : Int) hi hb
  have x1 := x1 (by omega)
  obtain ⟨y, i2, s2, e2, hi2, y0, y1, _⟩ := l1Below_ok b i1 s1 6 hi1 hb
  have er : (rd_T79 l x).f2.length ≤ 10 := by
   unfold rd_T79
   rw [getD_at (show x.toNat < l.length by omega)]
   exact hx _ (List.getElem_mem _)
  have st : ∀ p : S79, p.f2.length ≤ 100 → SmS (l.set x.toNat p) := fun p hp => ⟨by rw [List.length_set]; omega, fun z hz => by
   rcases List.mem_or_eq_of_mem_set hz with h | rfl
   ·exact h0.2 z h
   ·exact hp⟩
  by_cases c1 : y = 0
  ·obtain ⟨z, i3, s3, e3, hi3, _⟩ := l1Int_ok b i2 s2 [0, 1000, 10] hi2 hb (by simp) (by simp)
   refine ⟨_, i3, s3, Ev.bind hc (Ev.ifn c0 ?_), hi3, st ⟨z, (rd_T79 l x).f1, (rd_T79 l x).f2⟩ (by show (rd_T79 l x).f2.length ≤ 100; omega)⟩
   simp only [e1, e2, some_bind]
   refine Ev.ifp c1 ?_
   simp only [e3, some_bind]
   exact Ev.ifp x0 (Ev.ifp x1 (Ev.now _))
  ·by_cases c2 : y = 1
   ·obtain ⟨z, i3, s3, e3, hi3, _⟩ := l1Int_ok b i2 s2 [(-1), 100, 19] hi2 hb (by simp) (by simp)
    refine ⟨_, i3, s3, Ev.bind hc (Ev.ifn c0 ?_), hi3, st ⟨(rd_T79 l x).f0, z, (rd_T79 l x).f2⟩ (by show (rd_T79 l x).f2.length ≤ 100; omega)⟩
    simp only [e1, e2, some_bind]
    refine Ev.ifn c1 (Ev.ifp c2 ?_)
    simp only [e3, some_bind]
    exact Ev.ifp x0 (Ev.ifp x1 (Ev.now _))
   ·by_cases c3 : y = 2
    ·obtain ⟨z, i3, s3, e3, hi3, _⟩ := l1Int_ok b i2 s2 [0, 1, 1001] hi2 hb (by simp) (by simp)
     obtain ⟨u, i4, s4, e4, hi4, _⟩ := l1Below_ok b i3 s3 3 hi3 hb
     refine ⟨_, i4, s4, Ev.bind hc (Ev.ifn c0 ?_), hi4, st ⟨(rd_T79 l x).f0, (rd_T79 l x).f1, (rd_T79 l x).f2 ++ [⟨9, z, u⟩]⟩ (by show ((rd_T79 l x).f2 ++ [_]).length ≤ 100; simp; omega)⟩
     simp only [e1, e2, some_bind]
     refine Ev.ifn c1 (Ev.ifn c2 (Ev.ifp c3 (Ev.ifp x0 (Ev.ifp x1 ?_))))
     simp only [e3, e4, some_bind]
     exact Ev.ifp (by omega) (Ev.now _)
    ·by_cases c4 : y = 3
     ·refine ⟨l ++ [⟨(rd_T79 l 0).f0, (rd_T79 l 0).f1, (rd_T79 l 0).f2⟩], i2, s2, Ev.bind hc (Ev.ifn c0 ?_), hi2, by simp; omega, fun z hz => ?_⟩
      ·simp only [e1, e2, some_bind]
       exact Ev.ifn c1 (Ev.ifn c2 (Ev.ifn c3 (Ev.ifp c4 (Ev.ifp (by omega) (Ev.ifp (by omega) (Ev.now _))))))
      ·rcases List.mem_append.1 hz with h | h
       ·exact h0.2 z h
       ·have : z = ⟨(rd_T79 l 0).f0, (rd_T79 l 0).f1, (rd_T79 l 0).f2⟩ := by simpa using h
        subst this
        show (rd_T79 l 0).f2.length ≤ 100
        unfold rd_T79
        rw [getD_at (show (0 : Int).toNat < l.length by simp; omega)]
        exact h0.2 _ (List.getElem_mem _)
     ·refine ⟨l, i2, s2, Ev.bind hc (Ev.ifn c0 ?_), hi2, h0⟩
      simp only [e1, e2, some_bind]
      exact Ev.ifn c1 (Ev.ifn c2 (Ev.ifn c3 (Ev.ifn c4 (Ev.now _))))
theorem l5DrawAny_ok (b : List Int) (hb : b.length ≤ 1048576) (i s : Int) (hi : 0 ≤ i) : ∃ (r : List S79) (i' s' : Int), Ev (fun k => spec_l5DrawAny.f k b i s) (r, i', s') ∧ 0 ≤ i' ∧ SmS r := by
 unfold spec_l5DrawAny.f
 obtain ⟨l, i1, s1, e1, hi1, hl, hx⟩ := l5Draw_ok b hb i s hi
 obtain ⟨y, i2, s2, e2, hi2⟩ := l1Once_ok b i1 s1 8 hi1 hb
 cases y with
 | true =>
  obtain ⟨r, i3, s3, e3, hi3, h3⟩ := l5Bend_ok b hb i2 s2 hi2 l hl hx
  refine ⟨r, i3, s3, Ev.bind e1 ?_, hi3, h3⟩
  simp only [e2, some_bind]
  exact Ev.ifp trivial (Ev.bind e3 (Ev.now _))
 | false =>
  refine ⟨l, i2, s2, Ev.bind e1 ?_, hi2, by omega, fun x h => by have := hx x h; omega⟩
  simp only [e2, some_bind]
  exact Ev.ifn (by decide) (Ev.now _)
theorem l5Draw4_ok (b : List Int) (hb : b.length ≤ 1048576) : ∃ (r : List S79) (p k n : Int), Ev (fun q => spec_l5Draw4.f q b) (r, p, k, n) ∧ SmS r := by
 unfold spec_l5Draw4.f
 obtain ⟨s, e0⟩ := l1New_ok b hb
 obtain ⟨l, i1, s1, e1, hi1, hl⟩ := l5DrawAny_ok b hb 0 s (by omega)
 obtain ⟨x, i2, s2, e2, hi2, _⟩ := l1Int_ok b i1 s1 [10, 20, 30, 40, 50, 7] hi1 hb (by simp) (by simp)
 obtain ⟨y, i3, s3, e3, hi3, _⟩ := l1Int_ok b i2 s2 [1, 2, 3, 4, 5, 0, 51, 7] hi2 hb (by simp) (by simp)
 obtain ⟨z, i4, s4, e4, hi4, _⟩ := l1Int_ok b i3 s3 [1, 1, 2, 3, 5, 0, 1000, 1001] hi3 hb (by simp) (by simp)
 refine ⟨l, x, y, z, Ev.bind e0 (Ev.bind e1 ?_), hl⟩
 simp only [e2, e3, e4, some_bind]
 exact Ev.now _
theorem sameStock_f (l : List S79) (h : BigS l) : Ev (fun k => laws_sameStock.f k l l) true := by
 have inner : ∀ (i : Nat), i < l.length → (Ev (fun k => laws_sameStock.l0 k ((i + 1 : Nat) : Int) l l) true) → ∀ (d j : Nat) (p0 p1 q0 q1 : Int) (st : List S72), j + d = st.length → st.length ≤ 4194304 → Ev (fun k => laws_sameStock.l1 k i j l l p0 p1 st q0 q1 st) true := by
  intro i hi K d
  induction d with
  | zero =>
   intro j p0 p1 q0 q1 st e hst
   refine Ev.unroll ?_
   simp only [laws_sameStock.l1, wrap_sc (show i < 9223372036854775807 by have := h.1; omega)]
   exact Ev.ifn (by omega) K
  | succ d ih =>
   intro j p0 p1 q0 q1 st e hst
   refine Ev.unroll ?_
   simp only [laws_sameStock.l1, wrap_sc (show j < 9223372036854775807 by omega), beq_self_eq_true, Bool.not_true, Bool.or_self]
   exact Ev.ifp (by omega) (Ev.ifp (by omega) (Ev.ifp (by omega) (Ev.ifn (by decide) (ih (j + 1) p0 p1 q0 q1 st (by omega) hst))))
 have outer : ∀ (d i : Nat), i + d = l.length → Ev (fun k => laws_sameStock.l0 k i l l) true := by
  intro d
  induction d with
  | zero =>
   intro i e
   refine Ev.unroll ?_
   simp only [laws_sameStock.l0]
   exact Ev.ifn (by omega) (Ev.now _)
  | succ d ih =>
   intro i e
   have hi : i < l.length := by omega
   have hb : (podAtN l i).f2.length ≤ 4194304 := by unfold podAtN; rw [getD_at hi]; exact h.2 _ (List.getElem_mem hi)
   refine Ev.unroll ?_
   simp only [laws_sameStock.l0, rd_pod]
   refine Ev.ifp (by omega) (Ev.ifp (by omega) (Ev.ifp (by omega) (Ev.ifp (by trivial) (Ev.ifp (by trivial) (Ev.unroll ?_)))))
   simp only [laws_sameStock.j1, bne_self_eq_false]
   exact Ev.ifn (by decide) (inner i hi (ih (i + 1) (by omega)) _ 0 _ _ _ _ _ (by rw [Nat.zero_add]) hb)
 unfold laws_sameStock.f
 exact Ev.ifp rfl (outer l.length 0 (by omega))
theorem stock_bounds {l : List S79} (h : stockOk l = true) (k : Int) : 0 ≤ freeOf l k ∧ freeOf l k ≤ 12000 ∧ 0 ≤ countOf l k ∧ countOf l k ≤ 12000 := by
 have f := stock_pods h
 have hf : ∀ (d i : Nat) (acc : Int), i + d = l.length → 0 ≤ acc → acc ≤ 1000 * (i : Int) → 0 ≤ freeFrom l k d i acc ∧ freeFrom l k d i acc ≤ 1000 * (l.length : Int) := by
  intro d
  induction d with
  | zero => intro i acc e h0 h1; unfold freeFrom; omega
  | succ d ih =>
   intro i acc e h0 h1
   have b := stackOf_bounds (f.2 i (by omega)).stacks k
   unfold freeFrom
   exact ih (i + 1) _ (by omega) (by omega) (by omega)
 have hc : ∀ (d i : Nat) (acc : Int), i + d = l.length → 0 ≤ acc → acc ≤ 1000 * (i : Int) → 0 ≤ countFrom l k d i acc ∧ countFrom l k d i acc ≤ 1000 * (l.length : Int) := by
  intro d
  induction d with
  | zero => intro i acc e h0 h1; unfold countFrom; omega
  | succ d ih =>
   intro i acc e h0 h1
   have b := stackOf_bounds (f.2 i (by omega)).stacks k
   unfold countFrom
   exact ih (i + 1) _ (by omega) (by omega) (by omega)
 have h1 := hf l.length 0 0 (by omega) (by omega) (by omega)
 have h2 := hc l.length 0 0 (by omega) (by omega) (by omega)
 have h3 := f.1
 unfold freeOf countOf
 rw [if_pos h, if_pos h]
 omega

def av (p : S79) (sku : Int) : Int := (stackOf p.f2 sku).f1 - (stackOf p.f2 sku).f2
theorem podAtN_set {l : List S79} {b : Nat} (hb : b < l.length) (p : S79) (i : Nat) : podAtN (l.set b p) i = if i = b then p else podAtN l i := by
 unfold podAtN
 rw [List.getD_eq_getElem?_getD, List.getElem?_set, List.getD_eq_getElem?_getD]
 by_cases e : i = b
 ·subst e; simp [hb]
 ·rw [if_neg (fun h => e h.symm), if_neg e]
theorem stock_set {l : List S79} (h : stockOk l = true) {b : Nat} (hb : b < l.length) {p : S79} (e0 : p.f0 = (podAtN l b).f0) (e1 : p.f1 = (podAtN l b).f1) (hk : podOk p = true) : stockOk (l.set b p) = true := by
 have f0 : ∀ j, (podAtN (l.set b p) j).f0 = (podAtN l j).f0 := fun j => by
  rw [podAtN_set hb]; split
  ·rename_i e; rw [e, e0]
  ·rfl
 have f1 : ∀ j, (podAtN (l.set b p) j).f1 = (podAtN l j).f1 := fun j => by
  rw [podAtN_set hb]; split
  ·rename_i e; rw [e, e1]
  ·rfl
 unfold stockOk at h ⊢
 simp only [Bool.and_eq_true, decide_eq_true_eq, allFrom_iff, List.length_set] at h ⊢
 refine ⟨h.1, fun i h1 h2 => ?_⟩
 have h3 := h.2 i h1 h2
 unfold podAtOk at h3 ⊢
 have eh : homesOk (l.set b p) i = homesOk l i := by funext k; unfold homesOk; rw [f1, f1]
 rw [f0, f0, eh]
 simp only [Bool.and_eq_true] at h3 ⊢
 refine ⟨?_, h3.2⟩
 rw [podAtN_set hb]
 split
 ·exact hk
 ·exact h3.1
theorem stackAt_set {l : List S72} {b : Nat} (hb : b < l.length) (p : S72) (i : Nat) : stackAt (l.set b p) i = if i = b then p else stackAt l i := by
 unfold stackAt
 rw [List.getD_eq_getElem?_getD, List.getElem?_set, List.getD_eq_getElem?_getD]
 by_cases e : i = b
 ·subst e; simp [hb]
 ·rw [if_neg (fun h => e h.symm), if_neg e]
theorem stackOf_set : ∀ {l : List S72}, l.Pairwise (fun a b => a.f0 < b.f0) → ∀ {j : Nat}, j < l.length → ∀ {x : S72}, x.f0 = (stackAt l j).f0 → ∀ sku : Int, stackOf (l.set j x) sku = if sku = x.f0 then x else stackOf l sku
 | [], _, j, hj, _, _, _ => by simp at hj
 | y :: t, hp, 0, _, x, e, sku => by
  have e2 : x.f0 = y.f0 := e
  unfold stackOf
  rw [List.set_cons_zero, List.find?_cons, List.find?_cons]
  by_cases h : sku = x.f0
  ·subst h; simp
  ·rw [if_neg h, show (x.f0 == sku) = false by rw [beq_eq_false_iff_ne]; omega, show (y.f0 == sku) = false by rw [beq_eq_false_iff_ne]; omega]
 | y :: t, hp, j + 1, hj, x, e, sku => by
  have hs := List.pairwise_cons.1 hp
  have hj2 : j < t.length := by simpa using hj
  have e2 : x.f0 = (stackAt t j).f0 := by rw [e]; unfold stackAt; rw [List.getD_cons_succ]
  have ih := stackOf_set hs.2 hj2 e2 sku
  have hlt : y.f0 < x.f0 := by rw [e2]; unfold stackAt; rw [getD_at hj2]; exact hs.1 _ (List.getElem_mem hj2)
  unfold stackOf at ih ⊢
  rw [List.set_cons_succ, List.find?_cons, List.find?_cons]
  by_cases h : y.f0 = sku
  ·subst h
   rw [if_neg (by omega)]
   simp
  ·rw [show (y.f0 == sku) = false by rw [beq_eq_false_iff_ne]; exact h]
   exact ih
theorem Ev.eq {α : Type} {g : Nat → Option α} {r s : α} (h : Ev g r) (e : r = s) : Ev g s := e ▸ h
def putOf (l : List S79) (id sku n : Int) : List S79 × Int :=
 if askOk l sku n = true then (if 0 ≤ podIdx l id then
  (if hitAt (rd_T79 l (podIdx l id)).f2 sku = true then
   (if (stackOf (rd_T79 l (podIdx l id)).f2 sku).f1 + n > 1000 then (l, 4) else
    (l.set (podIdx l id).toNat ⟨(rd_T79 l (podIdx l id)).f0, (rd_T79 l (podIdx l id)).f1, (rd_T79 l (podIdx l id)).f2.set (lowIdx (rd_T79 l (podIdx l id)).f2 sku) ⟨sku, (stackOf (rd_T79 l (podIdx l id)).f2 sku).f1 + n, (stackOf (rd_T79 l (podIdx l id)).f2 sku).f2⟩⟩, 0))
  else (if ((rd_T79 l (podIdx l id)).f2.length : Int) ≥ 8 then (l, 4) else
   (l.set (podIdx l id).toNat ⟨(rd_T79 l (podIdx l id)).f0, (rd_T79 l (podIdx l id)).f1, (rd_T79 l (podIdx l id)).f2.take (lowIdx (rd_T79 l (podIdx l id)).f2 sku) ++ ⟨sku, n, 0⟩ :: (rd_T79 l (podIdx l id)).f2.drop (lowIdx (rd_T79 l (podIdx l id)).f2 sku)⟩, 0)))
  else (l, 2)) else (l, 1)
theorem putOf_len (l : List S79) (id sku n : Int) (hn : l.length ≤ 4194304) (hx : ∀ x ∈ l, x.f2.length ≤ 4194304) : (putOf l id sku n).1.length ≤ 4194304 ∧ ∀ x ∈ (putOf l id sku n).1, x.f2.length ≤ 4194304 := by
 unfold putOf
 split
 ·split
  ·rename_i ha h0
   have f := ask_facts ha h0
   have h8 := f.st8
   split
   ·split
    ·exact ⟨hn, hx⟩
    ·exact set_big ⟨hn, hx⟩ _ _ (by simp only [List.length_set]; omega)
   ·split
    ·exact ⟨hn, hx⟩
    ·exact set_big ⟨hn, hx⟩ _ _ (by simp only [List.length_append, List.length_take, List.length_cons, List.length_drop]; omega)
  ·exact ⟨hn, hx⟩
 ·exact ⟨hn, hx⟩
theorem impl_PutIn_f (l : List S79) (id sku n : Int) (hn : l.length ≤ 4194304) (hx : ∀ x ∈ l, x.f2.length ≤ 4194304) : Ev (fun k => impl_PutIn.f k l id sku n) (putOf l id sku n) := by
 unfold impl_PutIn.f putOf
 refine Ev.bind (impl_copyStock_f l hn hx) (Ev.bind (impl_place_f l id sku n hn hx) ?_)
 unfold placeOf
 by_cases ha : askOk l sku n = true
 ·rw [if_pos ha, if_pos ha]
  by_cases h0 : 0 ≤ podIdx l id
  ·have f := ask_facts ha h0
   rw [if_pos h0, if_pos h0]
   have hf := stackOf_bounds f.st sku
   have hh := hit_facts f.st sku
   have hs := hit_stack (sku := sku) (stacks_facts f.st).1
   have hfn := f.n
   have h8 := f.st8
   refine Ev.ifp (by first | rfl | trivial) (Ev.ifp h0 (Ev.ifp f.idx (Ev.bind (impl_stackAt_f _ _ (rd_T79 l (podIdx l id)).f2 sku (by have := f.st8; omega)) ?_)))
   generalize hp : rd_T79 l (podIdx l id) = p at *
   have hlow := lowIdx_le p.f2 sku
   cases hit : hitAt p.f2 sku
   ·refine Ev.ifn (by simp) ?_
    dsimp only
    by_cases h9 : (p.f2.length : Int) ≥ 8
    ·exact Ev.ifp h9 (Ev.fin (by rw [if_neg (by decide), if_pos h9]))
    ·refine Ev.ifn h9 (Ev.ifp (by omega) (Ev.ifp (by omega) (Ev.fin ?_)))
     rw [if_neg (by decide), if_neg h9]
     simp
   ·have h1 := hh.1 hit
    have h2 := hs.1 hit
    have e1 : rd_T72 p.f2 ((lowIdx p.f2 sku : Nat) : Int) = stackOf p.f2 sku := by rw [rd_stack]; exact h1.2
    have hw : wrap64 ((stackOf p.f2 sku).f1 + n) = (stackOf p.f2 sku).f1 + n := wrap_id (by omega) (by omega)
    refine Ev.ifp (by first | rfl | trivial) (Ev.ifp (by omega) (Ev.ifp (by omega) ?_))
    simp only [e1, hw, Int.toNat_natCast]
    by_cases hc : (stackOf p.f2 sku).f1 + n > 1000
    ·exact Ev.ifp hc (Ev.fin (by rw [if_pos (by first | rfl | trivial), if_pos hc]))
    ·refine Ev.ifn hc (Ev.fin ?_)
     rw [if_pos (by first | rfl | trivial), if_neg hc, h2.2]
  ·rw [if_neg h0, if_neg h0]
   exact Ev.ifn (by decide) (Ev.now _)
 ·rw [if_neg ha, if_neg ha]
  exact Ev.ifn (by decide) (Ev.now _)
theorem spec_PutIn_f (l : List S79) (id sku n : Int) (hn : l.length ≤ 4194304) (hx : ∀ x ∈ l, x.f2.length ≤ 4194304) : Ev (fun k => spec_PutIn.f k l id sku n) (putOf l id sku n) := by
 unfold spec_PutIn.f putOf
 refine Ev.bind (spec_l5Call_f l id sku n hn hx) ?_
 by_cases ha : askOk l sku n = true
 ·rw [if_pos ha, if_pos ha]
  by_cases h0 : 0 ≤ podIdx l id
  ·have f := ask_facts ha h0
   rw [if_pos h0, if_pos h0]
   have hf := stackOf_bounds f.st sku
   have hh := hit_facts f.st sku
   have hs := hit_stack (sku := sku) (stacks_facts f.st).1
   have hfn := f.n
   have hst := (stacks_facts f.st).1
   have hsf := (stacks_facts f.st).2
   have h8 := f.st8
   have hidx := f.idx
   refine Ev.ifp (by first | rfl | trivial) ?_
   have hput := spec_l5Put_f l (podIdx l id) ⟨(stackOf (rd_T79 l (podIdx l id)).f2 sku).f0, (stackOf (rd_T79 l (podIdx l id)).f2 sku).f1 + n, (stackOf (rd_T79 l (podIdx l id)).f2 sku).f2⟩ hn hx h0 f.idx
   have hbig : ((rd_T79 l (podIdx l id)).f2.length : Int) ≤ 8 := by omega
   generalize hp : rd_T79 l (podIdx l id) = p at *
   simp only [wrap_id (x := (stackOf p.f2 sku).f1 + n) (by omega) (by omega)]
   have hj1 : Ev (fun k => (spec_l5Copy.f k l).bind fun t => some (t, (4 : Int))) (l, 4) := Ev.bind (spec_l5Copy_f l hn hx) (Ev.now _)
   have hj0 : Ev (fun k => (spec_l5Put.f k l (podIdx l id) (stackOf p.f2 sku).f0 ((stackOf p.f2 sku).f1 + n) (stackOf p.f2 sku).f2).bind fun t => some (t, (0 : Int))) (l.set (podIdx l id).toNat ⟨p.f0, p.f1, insS ⟨(stackOf p.f2 sku).f0, (stackOf p.f2 sku).f1 + n, (stackOf p.f2 sku).f2⟩ ((stackOf p.f2 sku).f1 + n == 0) p.f2⟩, 0) := Ev.bind hput (Ev.now _)
   rw [show ((stackOf p.f2 sku).f1 + n == 0) = false by simp; omega] at hj0
   cases hit : hitAt p.f2 sku
   ·have h1 := hh.2 hit
    have h3 := (hs.2 hit)
    refine Ev.ifn (by omega) (Ev.ifp h1.1 (Ev.ifp h0 (Ev.ifp hidx ?_)))
    by_cases h9 : (p.f2.length : Int) ≥ 8
    ·exact Ev.eq (Ev.ifp (by omega) hj1) (by rw [if_neg (by decide), if_pos h9])
    ·refine Ev.ifn (by omega) ?_
     refine Ev.eq (r := (l.set (podIdx l id).toNat ⟨p.f0, p.f1, p.f2.take (lowIdx p.f2 sku) ++ ⟨sku, n, 0⟩ :: p.f2.drop (lowIdx p.f2 sku)⟩, 0)) ?_ (by rw [if_neg (by decide), if_neg h9])
     rw [insS_new ⟨(stackOf p.f2 sku).f0, (stackOf p.f2 sku).f1 + n, (stackOf p.f2 sku).f2⟩ hst (by rw [h3.1]; exact h3.2)] at hj0
     dsimp only at hj0
     have e0 : (stackOf p.f2 sku).f0 = sku := by rw [h3.1]
     have e1 : (stackOf p.f2 sku).f1 + n = n := by rw [h1.1]; omega
     exact Ev.eq hj0 (by rw [e0, e1, h1.2])
   ·have h2 := hs.1 hit
    have h1 := hh.1 hit
    by_cases hc : (stackOf p.f2 sku).f1 + n > 1000
    ·exact Ev.eq (Ev.ifp hc hj1) (by rw [if_pos (by first | rfl | trivial), if_pos hc])
    ·refine Ev.eq (r := (l.set (podIdx l id).toNat ⟨p.f0, p.f1, p.f2.set (lowIdx p.f2 sku) ⟨sku, (stackOf p.f2 sku).f1 + n, (stackOf p.f2 sku).f2⟩⟩, 0)) ?_ (by rw [if_pos (by first | rfl | trivial), if_neg hc])
     have hmem : stackOf p.f2 sku ∈ p.f2 := by
      rw [h2.1]; unfold stackAt; rw [getD_at h1.1]; exact List.getElem_mem _
     have hN := (hsf _ hmem).2.2.1
     refine Ev.ifn hc (Ev.ifn (by omega) ?_)
     rw [insS_hit ⟨(stackOf p.f2 sku).f0, (stackOf p.f2 sku).f1 + n, (stackOf p.f2 sku).f2⟩ false hst (by show hitAt p.f2 (stackOf p.f2 sku).f0 = true; rw [h2.2]; exact hit), if_neg (by decide)] at hj0
     dsimp only at hj0
     have hj0' := hj0
     rw [show (⟨sku, (stackOf p.f2 sku).f1 + n, (stackOf p.f2 sku).f2⟩ : S72) = ⟨(stackOf p.f2 sku).f0, (stackOf p.f2 sku).f1 + n, (stackOf p.f2 sku).f2⟩ by rw [h2.2], show lowIdx p.f2 sku = lowIdx p.f2 (stackOf p.f2 sku).f0 by rw [h2.2]]
     exact hj0'
  ·rw [if_neg h0, if_neg h0]
   refine Ev.ifn (by decide) (Ev.bind (spec_l5Copy_f l hn hx) (Ev.now _))
 ·rw [if_neg ha, if_neg ha]
  exact Ev.ifn (by decide) (Ev.bind (spec_l5Copy_f l hn hx) (Ev.now _))

def sumM (g : S79 → Int) : List S79 → Int
 | [] => 0
 | p :: t => g p + sumM g t
theorem sumM_set (g : S79 → Int) : ∀ (l : List S79) (b : Nat) (p : S79), b < l.length → sumM g (l.set b p) = sumM g l - g (podAtN l b) + g p
 | [], b, p, h => by simp at h
 | q :: t, 0, p, h => by
  show g p + sumM g t = g q + sumM g t - g q + g p
  omega
 | q :: t, b + 1, p, h => by
  have ih := sumM_set g t b p (by simpa using h)
  show g q + sumM g (t.set b p) = g q + sumM g t - g (podAtN t b) + g p
  omega
theorem freeFrom_sum (l : List S79) (sku : Int) : ∀ (d i : Nat) (acc : Int), i + d = l.length → freeFrom l sku d i acc = acc + sumM (fun p => av p sku) (l.drop i)
 | 0, i, acc, e => by rw [drop_end (by omega)]; simp [freeFrom, sumM]
 | d + 1, i, acc, e => by
  have hi : i < l.length := by omega
  have ei : podAtN l i = l[i] := by unfold podAtN; exact getD_at hi
  rw [freeFrom, freeFrom_sum l sku d (i + 1) _ (by omega), drop_cons hi, sumM, ei]
  unfold av; omega
theorem countFrom_sum (l : List S79) (sku : Int) : ∀ (d i : Nat) (acc : Int), i + d = l.length → countFrom l sku d i acc = acc + sumM (fun p => (stackOf p.f2 sku).f1) (l.drop i)
 | 0, i, acc, e => by rw [drop_end (by omega)]; simp [countFrom, sumM]
 | d + 1, i, acc, e => by
  have hi : i < l.length := by omega
  have ei : podAtN l i = l[i] := by unfold podAtN; exact getD_at hi
  rw [countFrom, countFrom_sum l sku d (i + 1) _ (by omega), drop_cons hi, sumM, ei]
  omega
theorem freeOf_sum {l : List S79} (h : stockOk l = true) (sku : Int) : freeOf l sku = sumM (fun p => av p sku) l := by
 unfold freeOf
 rw [if_pos h, freeFrom_sum l sku l.length 0 0 (by omega), List.drop_zero, Int.zero_add]
theorem countOf_sum {l : List S79} (h : stockOk l = true) (sku : Int) : countOf l sku = sumM (fun p => (stackOf p.f2 sku).f1) l := by
 unfold countOf
 rw [if_pos h, countFrom_sum l sku l.length 0 0 (by omega), List.drop_zero, Int.zero_add]
structure AskAt (l : List S79) (id sku n : Int) (b : Nat) : Prop where
 hb : b < l.length
 idx : podIdx l id = (b : Int)
 ok : stockOk l = true
 ask : askOk l sku n = true
 sku : 1 ≤ sku ∧ sku ≤ 50
 n : 1 ≤ n ∧ n ≤ 1000
 pf : PodFacts (podAtN l b)
theorem ask_at {l : List S79} {id sku n : Int} (ha : askOk l sku n = true) (h0 : 0 ≤ podIdx l id) : ∃ b : Nat, AskAt l id sku n b := by
 have f := ask_facts ha h0
 obtain ⟨b, hb⟩ : ∃ b : Nat, podIdx l id = (b : Int) := ⟨(podIdx l id).toNat, by omega⟩
 have hi := f.idx
 have hok : stockOk l = true := by unfold askOk at ha; simp only [Bool.and_eq_true] at ha; exact ha.1
 exact ⟨b, by omega, hb, hok, ha, f.sku, f.n, (stock_pods hok).2 b (by omega)⟩
theorem AskAt.set {l : List S79} {id sku n : Int} {b : Nat} (a : AskAt l id sku n b) {p : S79} (e0 : p.f0 = (podAtN l b).f0) (e1 : p.f1 = (podAtN l b).f1) (hk : podOk p = true) : AskAt (l.set b p) id sku n b ∧ podAtN (l.set b p) b = p := by
 have ok2 := stock_set a.ok a.hb e0 e1 hk
 have hp : podAtN (l.set b p) b = p := by rw [podAtN_set a.hb, if_pos rfl]
 refine ⟨⟨by rw [List.length_set]; exact a.hb, ?_, ok2, ?_, a.sku, a.n, (stock_pods ok2).2 b (by rw [List.length_set]; exact a.hb)⟩, hp⟩
 ·rw [podIdx_set l id b p (fun h => by rw [e0]; unfold podAtN; rw [getD_at h])]; exact a.idx
 ·have := a.ask
  unfold askOk at this ⊢
  simp only [Bool.and_eq_true] at this ⊢
  exact ⟨ok2, this.2⟩
theorem stacksOk_of {l : List S72} (h1 : l.Pairwise (fun a b => a.f0 < b.f0)) (h2 : ∀ x ∈ l, 1 ≤ x.f0 ∧ x.f0 ≤ 50 ∧ 1 ≤ x.f1 ∧ x.f1 ≤ 1000 ∧ 0 ≤ x.f2 ∧ x.f2 ≤ x.f1) : stacksOk l = true := by
 unfold stacksOk
 rw [allFrom_iff]
 intro j _ hj
 have hx := h2 l[j] (List.getElem_mem hj)
 have ej : stackAt l j = l[j] := by unfold stackAt; exact getD_at hj
 unfold stackOk
 rw [ej]
 simp only [Bool.and_eq_true, Bool.or_eq_true, inB_iff, decide_eq_true_eq]
 refine ⟨by omega, by omega, by omega, ?_⟩
 by_cases h0 : j = 0
 ·exact .inl h0
 ·have := List.pairwise_iff_getElem.1 h1 (j - 1) j (by omega) hj (by omega)
  have e2 : stackAt l (j - 1) = l[j - 1] := by unfold stackAt; exact getD_at (by omega)
  rw [e2]; exact .inr this
structure SetFacts (s t : List S72) (sku : Int) (x : S72) : Prop where
 ok : stacksOk t = true
 of : ∀ k : Int, stackOf t k = if k = sku then x else stackOf s k
 low : lowIdx t sku = lowIdx s sku
 hit : hitAt t sku = true
theorem set_facts {s : List S72} (hs : stacksOk s = true) {sku N H : Int} (hit : hitAt s sku = true) (hN : 1 ≤ N ∧ N ≤ 1000) (hH : 0 ≤ H ∧ H ≤ N) : SetFacts s (s.set (lowIdx s sku) ⟨sku, N, H⟩) sku ⟨sku, N, H⟩ := by
 have f := stacks_facts hs
 have h1 := (hit_facts hs sku).1 hit
 have h2 := (hit_stack (sku := sku) f.1).1 hit
 have e0 : sku = (stackAt s (lowIdx s sku)).f0 := by rw [h1.2, h2.2]
 have el : lowIdx (s.set (lowIdx s sku) ⟨sku, N, H⟩) sku = lowIdx s sku := lowIdx_set _ _ _ _ (fun h => by
  have : stackAt s (lowIdx s sku) = s[lowIdx s sku]'h := by unfold stackAt; exact getD_at h
  exact e0.trans (congrArg _ this))
 have hm := f.2 (s[lowIdx s sku]'h1.1) (List.getElem_mem _)
 have e3 : (s[lowIdx s sku]'h1.1).f0 = sku := by
  have : stackAt s (lowIdx s sku) = s[lowIdx s sku]'h1.1 := by unfold stackAt; exact getD_at h1.1
  rw [this] at e0; exact e0.symm
 refine ⟨stacksOk_of ?_ ?_, fun k => stackOf_set f.1 h1.1 e0 k, el, ?_⟩
 ·refine List.pairwise_iff_getElem.2 fun i j hi hj hij => ?_
  have := List.pairwise_iff_getElem.1 f.1 i j (by simpa using hi) (by simpa using hj) hij
  rw [List.getElem_set, List.getElem_set]
  split <;> split
  ·omega
  ·rename_i a b; subst a; show sku < _; omega
  ·rename_i a b; subst b; show _ < sku; omega
  ·exact this
 ·intro x hx
  rcases List.mem_or_eq_of_mem_set hx with h | rfl
  ·exact f.2 x h
  ·show 1 ≤ sku ∧ sku ≤ 50 ∧ 1 ≤ N ∧ N ≤ 1000 ∧ 0 ≤ H ∧ H ≤ N
   rw [e3] at hm; omega
 ·unfold hitAt
  rw [el, List.length_set, decide_eq_true h1.1, Bool.true_and, stackAt_set h1.1, if_pos rfl]
  simp
theorem set_back {s : List S72} (hs : stacksOk s = true) {sku : Int} (hit : hitAt s sku = true) (y : S72) {N H : Int} (eN : N = (stackOf s sku).f1) (eH : H = (stackOf s sku).f2) : (s.set (lowIdx s sku) y).set (lowIdx s sku) ⟨sku, N, H⟩ = s := by
 have h1 := (hit_facts hs sku).1 hit
 have h2 := (hit_stack (sku := sku) (stacks_facts hs).1).1 hit
 rw [List.set_set]
 have e : (⟨sku, N, H⟩ : S72) = s[lowIdx s sku]'h1.1 := by
  have e1 : stackOf s sku = s[lowIdx s sku]'h1.1 := h1.2.symm.trans (by unfold stackAt; exact getD_at h1.1)
  have e2 := h2.2
  rw [← e1, eN, eH]
  generalize stackOf s sku = z at *
  cases z; cases e2; rfl
 rw [e, set_id s _ h1.1]
theorem ins_mem {x y : S72} {s : List S72} {j : Nat} (h : y ∈ s.take j ++ x :: s.drop j) : y = x ∨ y ∈ s := by
 rcases List.mem_append.1 h with h | h
 ·exact .inr (List.mem_of_mem_take h)
 ·rcases List.mem_cons.1 h with h | h
  ·exact .inl h
  ·exact .inr (List.mem_of_mem_drop h)
theorem ins_facts (x : S72) : ∀ {s : List S72}, s.Pairwise (fun a b => a.f0 < b.f0) → (∀ y ∈ s, y.f0 ≠ x.f0) →
  (s.take (lowIdx s x.f0) ++ x :: s.drop (lowIdx s x.f0)).Pairwise (fun a b => a.f0 < b.f0) ∧ (∀ k : Int, stackOf (s.take (lowIdx s x.f0) ++ x :: s.drop (lowIdx s x.f0)) k = if k = x.f0 then x else stackOf s k) ∧ lowIdx (s.take (lowIdx s x.f0) ++ x :: s.drop (lowIdx s x.f0)) x.f0 = lowIdx s x.f0
 | [], _, _ => by
  refine ⟨by simp, fun k => ?_, by simp [lowIdx]⟩
  unfold stackOf
  show (List.find? _ [x]).getD _ = _
  rw [List.find?_cons]
  by_cases e : k = x.f0
  ·subst e; simp
  ·rw [if_neg e, show (x.f0 == k) = false by rw [beq_eq_false_iff_ne]; omega]
 | y :: t, hp, h => by
  have hs := List.pairwise_cons.1 hp
  have hy := h y List.mem_cons_self
  have ht : ∀ z ∈ t, z.f0 ≠ x.f0 := fun z hz => h z (List.mem_cons_of_mem _ hz)
  have el := lowIdx_cons y t x.f0
  have ih := ins_facts x hs.2 ht
  by_cases c : y.f0 < x.f0
  ·rw [if_pos c] at el
   rw [el, List.take_succ_cons, List.drop_succ_cons, List.cons_append]
   refine ⟨List.pairwise_cons.2 ⟨fun z hz => ?_, ih.1⟩, fun k => ?_, ?_⟩
   ·rcases ins_mem hz with rfl | hz
    ·exact c
    ·exact hs.1 z hz
   ·have := ih.2.1 k
    unfold stackOf at this ⊢
    rw [List.find?_cons, List.find?_cons]
    by_cases e : y.f0 = k
    ·subst e; rw [if_neg (by omega)]; simp
    ·rw [show (y.f0 == k) = false by rw [beq_eq_false_iff_ne]; exact e]; exact this
   ·rw [lowIdx_cons, if_pos c, ih.2.2]
  ·rw [if_neg c] at el
   rw [el, List.take_zero, List.drop_zero, List.nil_append]
   refine ⟨List.pairwise_cons.2 ⟨fun z hz => ?_, hp⟩, fun k => ?_, ?_⟩
   ·rcases List.mem_cons.1 hz with rfl | hz
    ·omega
    ·have := hs.1 z hz; omega
   ·unfold stackOf
    rw [List.find?_cons]
    by_cases e : k = x.f0
    ·subst e; simp
    ·rw [if_neg e, show (x.f0 == k) = false by rw [beq_eq_false_iff_ne]; omega]
   ·rw [lowIdx_cons, if_neg (by omega)]
theorem new_facts {s : List S72} (hs : stacksOk s = true) {sku n : Int} (hit : hitAt s sku = false) (hk : 1 ≤ sku ∧ sku ≤ 50) (hn : 1 ≤ n ∧ n ≤ 1000) : SetFacts s (s.take (lowIdx s sku) ++ ⟨sku, n, 0⟩ :: s.drop (lowIdx s sku)) sku ⟨sku, n, 0⟩ := by
 have f := stacks_facts hs
 have h2 := (hit_stack (sku := sku) f.1).2 hit
 have g := ins_facts ⟨sku, n, 0⟩ f.1 h2.2
 have hl := lowIdx_le s sku
 refine ⟨stacksOk_of g.1 (fun x hx => ?_), g.2.1, g.2.2, ?_⟩
 ·rcases ins_mem hx with rfl | hx
  ·show 1 ≤ sku ∧ sku ≤ 50 ∧ 1 ≤ n ∧ n ≤ 1000 ∧ 0 ≤ (0 : Int) ∧ 0 ≤ n
   omega
  ·exact f.2 x hx
 ·have el := g.2.2
  dsimp only at el
  unfold hitAt stackAt
  rw [el]
  have h3 : lowIdx s sku < (s.take (lowIdx s sku) ++ (⟨sku, n, 0⟩ : S72) :: s.drop (lowIdx s sku)).length := by simp; omega
  rw [decide_eq_true h3, Bool.true_and, getD_at h3, List.getElem_append_right (by rw [List.length_take]; omega)]
  simp [Nat.min_eq_left hl]
def setPod (q : S79) (sku N H : Int) : S79 := ⟨q.f0, q.f1, q.f2.set (lowIdx q.f2 sku) ⟨sku, N, H⟩⟩
def newPod (q : S79) (sku n : Int) : S79 := ⟨q.f0, q.f1, q.f2.take (lowIdx q.f2 sku) ++ ⟨sku, n, 0⟩ :: q.f2.drop (lowIdx q.f2 sku)⟩
theorem podOk_of {p : S79} (h0 : 1 ≤ p.f0 ∧ p.f0 ≤ 999) (h1 : 0 ≤ p.f1 ∧ p.f1 ≤ 99) (h8 : p.f2.length ≤ 8) (hs : stacksOk p.f2 = true) : podOk p = true := by
 unfold podOk
 simp only [Bool.and_eq_true, inB_iff, decide_eq_true_eq]
 exact ⟨h0, h1, h8, hs⟩
theorem setPod_ok {q : S79} (f : PodFacts q) {sku N H : Int} (hit : hitAt q.f2 sku = true) (hN : 1 ≤ N ∧ N ≤ 1000) (hH : 0 ≤ H ∧ H ≤ N) : podOk (setPod q sku N H) = true :=
 podOk_of f.id f.home (by show (q.f2.set _ _).length ≤ 8; rw [List.length_set]; exact f.len) (set_facts f.stacks hit hN hH).ok
theorem newPod_ok {q : S79} (f : PodFacts q) {sku n : Int} (hit : hitAt q.f2 sku = false) (hk : 1 ≤ sku ∧ sku ≤ 50) (hn : 1 ≤ n ∧ n ≤ 1000) (h8 : ¬ (q.f2.length : Int) ≥ 8) : podOk (newPod q sku n) = true := by
 have hl := lowIdx_le q.f2 sku
 exact podOk_of f.id f.home (by show (q.f2.take _ ++ _ :: q.f2.drop _).length ≤ 8; simp; omega) (new_facts f.stacks hit hk hn).ok
theorem heldOf_at {l : List S79} {id sku n : Int} {b : Nat} (a : AskAt l id sku n b) (more : Int) : heldOf l id sku n more =
  if hitAt (podAtN l b).f2 sku = true ∧ 0 ≤ (stackOf (podAtN l b).f2 sku).f2 + more ∧ (stackOf (podAtN l b).f2 sku).f2 + more ≤ (stackOf (podAtN l b).f2 sku).f1 then (l.set b (setPod (podAtN l b) sku (stackOf (podAtN l b).f2 sku).f1 ((stackOf (podAtN l b).f2 sku).f2 + more)), 0) else (l, 3) := by
 unfold heldOf
 rw [if_pos a.ask, a.idx, if_pos (by omega), rd_pod, Int.toNat_natCast]
 rfl
theorem takeOf_at {l : List S79} {id sku n : Int} {b : Nat} (a : AskAt l id sku n b) : takeOf l id sku n =
  if hitAt (podAtN l b).f2 sku = true ∧ n ≤ (stackOf (podAtN l b).f2 sku).f2 then (l.set b ⟨(podAtN l b).f0, (podAtN l b).f1, takenStacks (podAtN l b).f2 sku n⟩, 0) else (l, 3) := by
 unfold takeOf
 rw [if_pos a.ask, a.idx, if_pos (by omega), rd_pod, Int.toNat_natCast]
theorem putOf_at {l : List S79} {id sku n : Int} {b : Nat} (a : AskAt l id sku n b) : putOf l id sku n =
  if hitAt (podAtN l b).f2 sku = true then (if (stackOf (podAtN l b).f2 sku).f1 + n > 1000 then (l, 4) else (l.set b (setPod (podAtN l b) sku ((stackOf (podAtN l b).f2 sku).f1 + n) (stackOf (podAtN l b).f2 sku).f2), 0))
  else (if ((podAtN l b).f2.length : Int) ≥ 8 then (l, 4) else (l.set b (newPod (podAtN l b) sku n), 0)) := by
 unfold putOf
 rw [if_pos a.ask, a.idx, if_pos (by omega), rd_pod, Int.toNat_natCast]
 rfl
theorem set_set_back {l : List S79} {b : Nat} (hb : b < l.length) (p : S79) : (l.set b p).set b (podAtN l b) = l := by
 rw [List.set_set]
 have : podAtN l b = l[b] := by unfold podAtN; exact getD_at hb
 rw [this, set_id l b hb]
theorem ins_out (s : List S72) (x y : S72) {j : Nat} (hj : j ≤ s.length) : ((s.take j ++ x :: s.drop j).set j y).take j ++ ((s.take j ++ x :: s.drop j).set j y).drop (j + 1) = s := by
 have hl : (s.take j).length = j := by rw [List.length_take]; omega
 rw [fill_step (s.take j) (x :: s.drop j) y hl.symm (by simp)]
 have e1 : (s.take j ++ [y] ++ (x :: s.drop j).drop 1).take j = s.take j := by
  rw [List.append_assoc, List.take_append_of_le_length (by omega), List.take_of_length_le (by omega)]
 have e2 : (s.take j ++ [y] ++ (x :: s.drop j).drop 1).drop (j + 1) = s.drop j := by
  rw [List.drop_append_of_le_length (by simp; omega), List.drop_of_length_le (by simp; omega), List.nil_append, List.drop_one, List.tail_cons]
 rw [e1, e2, List.take_append_drop]
theorem taken_back {l : List S79} {id sku n : Int} (h : (putOf l id sku n).2 = 0) : stockOk (putOf l id sku n).1 = true ∧ freeOf (putOf l id sku n).1 sku = freeOf l sku + n ∧ countOf (putOf l id sku n).1 sku = countOf l sku + n ∧
  (heldOf (putOf l id sku n).1 id sku n n).2 = 0 ∧ takeOf (heldOf (putOf l id sku n).1 id sku n n).1 id sku n = (l, 0) := by
 by_cases ha : askOk l sku n = true
 ·by_cases h0 : 0 ≤ podIdx l id
  ·obtain ⟨b, a⟩ := ask_at ha h0
   have hbd := stackOf_bounds a.pf.stacks sku
   have hnn := a.n
   rw [putOf_at a] at h ⊢
   cases hit : hitAt (podAtN l b).f2 sku with
   | true =>
    rw [hit, if_pos rfl] at h
    rw [if_pos rfl]
    split at h
    ·cases h
    ·rename_i hc
     rw [if_neg hc]
     have hN := (stacks_facts a.pf.stacks).2 (stackOf (podAtN l b).f2 sku) (by
      have h1 := (hit_facts a.pf.stacks sku).1 hit
      rw [← h1.2]; unfold stackAt; rw [getD_at h1.1]; exact List.getElem_mem _)
     generalize hq : podAtN l b = q at *
     generalize hx : stackOf q.f2 sku = x at *
     have s1 := set_facts a.pf.stacks (hq ▸ hit) (N := x.f1 + n) (H := x.f2) (by omega) (by omega)
     have s2 := set_facts a.pf.stacks (hq ▸ hit) (N := x.f1 + n) (H := x.f2 + n) (by omega) (by omega)
     rw [hq] at s1 s2
     have o1 := s1.of sku
     have o2 := s2.of sku
     rw [if_pos rfl] at o1 o2
     have k1 := setPod_ok a.pf (hq ▸ hit) (N := x.f1 + n) (H := x.f2) (by omega) (by omega)
     have k2 := setPod_ok a.pf (hq ▸ hit) (N := x.f1 + n) (H := x.f2 + n) (by omega) (by omega)
     rw [hq] at k1 k2
     obtain ⟨a1, e1⟩ := a.set (p := setPod q sku (x.f1 + n) x.f2) (by rw [hq]; rfl) (by rw [hq]; rfl) k1
     obtain ⟨a2, e2⟩ := a.set (p := setPod q sku (x.f1 + n) (x.f2 + n)) (by rw [hq]; rfl) (by rw [hq]; rfl) k2
     have f1 : (setPod q sku (x.f1 + n) x.f2).f2 = q.f2.set (lowIdx q.f2 sku) ⟨sku, x.f1 + n, x.f2⟩ := rfl
     have f2 : (setPod q sku (x.f1 + n) (x.f2 + n)).f2 = q.f2.set (lowIdx q.f2 sku) ⟨sku, x.f1 + n, x.f2 + n⟩ := rfl
     have hh : heldOf (l.set b (setPod q sku (x.f1 + n) x.f2)) id sku n n = (l.set b (setPod q sku (x.f1 + n) (x.f2 + n)), 0) := by
      rw [heldOf_at a1 n, e1, f1, s1.hit, o1, if_pos ⟨rfl, by dsimp only; omega, by dsimp only; omega⟩]
      have e5 : setPod (setPod q sku (x.f1 + n) x.f2) sku (x.f1 + n) (x.f2 + n) = setPod q sku (x.f1 + n) (x.f2 + n) := by
       unfold setPod; dsimp only; rw [s1.low, List.set_set]
      show (_, (0 : Int)) = _
      rw [e5, List.set_set]
     refine ⟨a1.ok, ?_, ?_, ?_, ?_⟩
     ·show freeOf (l.set b _) sku = _
      rw [freeOf_sum a1.ok, freeOf_sum a.ok, sumM_set _ _ _ _ a.hb, hq]
      have e3 : av (setPod q sku (x.f1 + n) x.f2) sku = av q sku + n := by
       unfold av; rw [f1, o1, hx]; dsimp only; omega
      rw [e3]; omega
     ·show countOf (l.set b _) sku = _
      rw [countOf_sum a1.ok, countOf_sum a.ok, sumM_set _ _ _ _ a.hb, hq]
      have e3 : (stackOf (setPod q sku (x.f1 + n) x.f2).f2 sku).f1 = (stackOf q.f2 sku).f1 + n := by
       rw [f1, o1, hx]
      rw [e3]; omega
     ·show (heldOf (l.set b _) id sku n n).2 = 0
      rw [hh]
     ·show takeOf (heldOf (l.set b _) id sku n n).1 id sku n = _
      rw [hh]
      show takeOf (l.set b _) id sku n = _
      rw [takeOf_at a2, e2, f2, s2.hit, o2, if_pos ⟨rfl, by dsimp only; omega⟩]
      have sb := set_back a.pf.stacks (hq ▸ hit) (sku := sku) ⟨sku, x.f1 + n, x.f2 + n⟩ (N := x.f1) (H := x.f2) (by rw [hq, hx]) (by rw [hq, hx])
      rw [hq] at sb
      have e6 : takenStacks (q.f2.set (lowIdx q.f2 sku) ⟨sku, x.f1 + n, x.f2 + n⟩) sku n = q.f2 := by
       unfold takenStacks
       rw [o2, if_neg (by dsimp only; omega), s2.low]
       dsimp only
       rw [show x.f1 + n - n = x.f1 by omega, show x.f2 + n - n = x.f2 by omega, sb]
      rw [e6]
      show ((l.set b (setPod q sku (x.f1 + n) (x.f2 + n))).set b q, (0 : Int)) = _
      rw [← hq, set_set_back a.hb]
   | false =>
    rw [hit, if_neg (by decide)] at h
    rw [if_neg (by decide)]
    split at h
    ·cases h
    ·rename_i hc
     rw [if_neg hc]
     have h00 := (hit_facts a.pf.stacks sku).2 hit
     generalize hq : podAtN l b = q at *
     have s1 := new_facts a.pf.stacks (hq ▸ hit) a.sku a.n
     rw [hq] at s1
     have k1 := newPod_ok a.pf (hq ▸ hit) a.sku a.n (by rw [hq]; exact hc)
     rw [hq] at k1
     obtain ⟨a1, e1⟩ := a.set (p := newPod q sku n) (by rw [hq]; rfl) (by rw [hq]; rfl) k1
     have f1 : (newPod q sku n).f2 = q.f2.take (lowIdx q.f2 sku) ++ ⟨sku, n, 0⟩ :: q.f2.drop (lowIdx q.f2 sku) := rfl
     have o1 := s1.of sku
     rw [if_pos rfl] at o1
     have p1 := a1.pf
     rw [e1] at p1
     have hit1 : hitAt (newPod q sku n).f2 sku = true := by rw [f1]; exact s1.hit
     have s2 := set_facts p1.stacks hit1 (N := n) (H := n) (by omega) (by omega)
     have o2 := s2.of sku
     rw [if_pos rfl] at o2
     have k2 := setPod_ok p1 hit1 (N := n) (H := n) (by omega) (by omega)
     obtain ⟨a2, e2⟩ := a.set (p := setPod (newPod q sku n) sku n n) (by rw [hq]; rfl) (by rw [hq]; rfl) k2
     have hh : heldOf (l.set b (newPod q sku n)) id sku n n = (l.set b (setPod (newPod q sku n) sku n n), 0) := by
      rw [heldOf_at a1 n, e1, hit1, f1, o1, if_pos ⟨rfl, by dsimp only; omega, by dsimp only; omega⟩]
      show (_, (0 : Int)) = _
      dsimp only
      rw [List.set_set, show (0 : Int) + n = n by omega]
     refine ⟨a1.ok, ?_, ?_, ?_, ?_⟩
     ·show freeOf (l.set b _) sku = _
      rw [freeOf_sum a1.ok, freeOf_sum a.ok, sumM_set _ _ _ _ a.hb, hq]
      have e3 : av (newPod q sku n) sku = av q sku + n := by
       unfold av; rw [f1, o1]; dsimp only; omega
      rw [e3]; omega
     ·show countOf (l.set b _) sku = _
      rw [countOf_sum a1.ok, countOf_sum a.ok, sumM_set _ _ _ _ a.hb, hq]
      have e3 : (stackOf (newPod q sku n).f2 sku).f1 = (stackOf q.f2 sku).f1 + n := by
       rw [f1, o1]; dsimp only; omega
      rw [e3]; omega
     ·show (heldOf (l.set b _) id sku n n).2 = 0
      rw [hh]
     ·show takeOf (heldOf (l.set b _) id sku n n).1 id sku n = _
      rw [hh]
      show takeOf (l.set b _) id sku n = _
      have f2 : (setPod (newPod q sku n) sku n n).f2 = (newPod q sku n).f2.set (lowIdx (newPod q sku n).f2 sku) ⟨sku, n, n⟩ := rfl
      rw [takeOf_at a2, e2, f2, s2.hit, o2, if_pos ⟨rfl, by dsimp only; omega⟩]
      have e6 : takenStacks ((newPod q sku n).f2.set (lowIdx (newPod q sku n).f2 sku) ⟨sku, n, n⟩) sku n = q.f2 := by
       unfold takenStacks
       rw [o2, if_pos (by dsimp only; omega), s2.low, f1, s1.low]
       exact ins_out q.f2 _ _ (lowIdx_le q.f2 sku)
      rw [e6]
      show ((l.set b (setPod (newPod q sku n) sku n n)).set b q, (0 : Int)) = _
      rw [← hq, set_set_back a.hb]
  ·exfalso
   unfold putOf at h
   rw [if_pos ha, if_neg h0] at h
   cases h
 ·exfalso
  unfold putOf at h
  rw [if_neg ha] at h
  cases h

def heldAt (l : List S79) (b : Nat) (sku : Int) : Int := (stackOf (podAtN l b).f2 sku).f2
def shapeP (p : S79) : Int × Int × List (Int × Int) := (p.f0, p.f1, p.f2.map (fun x => (x.f0, x.f1)))
structure Turn (l l' : List S79) (b : Nat) (sku more : Int) : Prop where
 ok : stockOk l' = true
 shape : l'.map shapeP = l.map shapeP
 held : ∀ (i : Nat) (k : Int), heldAt l' i k = heldAt l i k + if i = b ∧ k = sku then more else 0
theorem Turn.len {l l' : List S79} {b : Nat} {sku more : Int} (t : Turn l l' b sku more) : l'.length = l.length := by
 have := congrArg List.length t.shape
 simpa using this
structure Turns (l l' : List S79) (f : Int → Int → Int) : Prop where
 ok : stockOk l' = true
 shape : l'.map shapeP = l.map shapeP
 held : ∀ (i : Nat) (k : Int), i < l.length → heldAt l' i k = heldAt l i k + f (podAtN l i).f0 k
theorem Turns.len {l l' : List S79} {f : Int → Int → Int} (t : Turns l l' f) : l'.length = l.length := by
 have := congrArg List.length t.shape
 simpa using this
theorem put_ask {l : List S79} {id sku n : Int} (h : (putOf l id sku n).2 = 0) : ∃ b : Nat, AskAt l id sku n b := by
 by_cases ha : askOk l sku n = true
 ·by_cases h0 : 0 ≤ podIdx l id
  ·exact ask_at ha h0
  ·exfalso
   unfold putOf at h
   rw [if_pos ha, if_neg h0] at h
   cases h
 ·exfalso
  unfold putOf at h
  rw [if_neg ha] at h
  cases h
theorem put_no {l : List S79} {id sku n : Int} (h : ¬ (putOf l id sku n).2 = 0) : (putOf l id sku n).1 = l := by
 unfold putOf at h ⊢
 split
 ·rename_i h1
  rw [if_pos h1] at h
  split
  ·rename_i h2
   rw [if_pos h2] at h
   split
   ·rename_i h3
    rw [if_pos h3] at h
    split
    ·rfl
    ·rename_i h4; rw [if_neg h4] at h; exact absurd rfl h
   ·rename_i h3
    rw [if_neg h3] at h
    split
    ·rfl
    ·rename_i h4; rw [if_neg h4] at h; exact absurd rfl h
  ·rfl
 ·rfl
theorem FnTaken : laws_FnTaken.Pure := by
 intro b hm hb2 hby
 refine Ev.rounds ?_
 unfold laws_FnTaken.f
 simp only [laws_big.f, some_bind, decide_eq_true_eq]
 refine ev_ite' (fun _ => Ev.now _) (fun hbig => ?_)
 obtain ⟨l, pod, sku, n, e, hs⟩ := l5Draw4_ok b (by omega)
 have B := hs.big
 have e2 : Ev (fun k => spec_DrawPutIn.f k b) (l, pod, sku, n) := by
  unfold spec_DrawPutIn.f
  exact Ev.bind e (Ev.now _)
 have P := putOf_len l pod sku n B.1 B.2
 have H := heldOf_big (putOf l pod sku n).1 pod sku n n P
 refine Ev.bind e2 (Ev.bind (impl_PutIn_f l pod sku n B.1 B.2) (Ev.bind (spec_PutIn_f l pod sku n B.1 B.2) (Ev.ifp rfl ?_)))
 by_cases h0 : (putOf l pod sku n).2 = 0
 ·obtain ⟨ok, fr, cn, h1, tk⟩ := taken_back h0
  obtain ⟨q, a⟩ := put_ask h0
  have b1 := stock_bounds a.ok sku
  have hn := a.n
  have hT := impl_TakeOut_f _ pod sku n H.1 H.2
  rw [tk] at hT
  have hS := impl_StockOk_f _ P.1 P.2
  rw [ok] at hS
  refine Ev.ifp h0 (Ev.bind (impl_TakeOut_f l pod sku 1000 B.1 B.2) (Ev.bind (spec_TakeOut_f l pod sku 1000 B.1 B.2) (Ev.bind (impl_Hold_f _ pod sku n P.1 P.2) (Ev.bind hT (Ev.ifp rfl ?_)))))
  exact Ev.bind (impl_Free_f _ sku P.1 P.2) (Ev.bind (impl_Free_f l sku B.1 B.2) (Ev.ifp (by show _ = wrap64 (freeOf l sku + n); rw [wrap_id (by omega) (by omega)]; exact fr) (Ev.bind (impl_Count_f _ sku P.1 P.2) (Ev.bind (impl_Count_f l sku B.1 B.2) (Ev.ifp (by show _ = wrap64 (countOf l sku + n); rw [wrap_id (by omega) (by omega)]; exact cn) (Ev.ifp h1 (Ev.ifp rfl (Ev.bind (sameStock_f l B) (Ev.ifp rfl (Ev.bind hS (Ev.now _)))))))))))
 ·have eq := put_no h0
  refine Ev.ifn h0 ?_
  have := sameStock_f l B
  dsimp only
  rw [eq]
  exact Ev.bind this (Ev.now _)

end Go.Proofs.Yteajnkondkfmgaa.Pure
