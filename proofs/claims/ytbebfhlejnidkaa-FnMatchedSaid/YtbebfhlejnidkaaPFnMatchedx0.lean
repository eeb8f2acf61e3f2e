-- Made by a program of this session out of the translation. Lean checks it.
import Derived.Test.YtbebfhlejnidkaaProg
import Derived.Lib.Bytealg
import Derived.LoopN
import Derived.Below
import Derived.Deep.Draws
import Derived.Deep.AppendLies
import Derived.Maps.AppendAt
import Derived.OwnWalk
import Derived.Laws.BytesArg
import Derived.Laws.MakeOwn
import Derived.Laws.OwnMore
import Derived.Deep.OwnRows
import Derived.Tactics
import Derived.Lib.ConvBytes
import Derived.Laws.Slices
import Derived.WalkKit
import Derived.KernelRfl
import Derived.RowKit3
import Derived.Deep.LoopGhost
import Derived.Deep.QuietTactic
import Derived.BigQuiet
import Derived.WideLaws
import Derived.Deep.DeepCutAuto
import Derived.Deep.CutBlock
import Derived.Deep.RegionHeld3
import Derived.Laws.Rows
import Derived.Lib.AppendStr
import Derived.ArgAppend
import Derived.Laws.IdiomCopy
import Derived.OrdersHeld
import Derived.Laws.BitsLemmas
import Derived.RowKit
import Derived.Test.YtbebfhlejnidkaaVFnMatched
namespace Go.Proofs.Ytbebfhlejnidkaa.PFnMatched
open Go.RowKit Go.Proofs.YtbebfhlejnidkaaW.PrintWords Go.Proofs.YtbebfhlejnidkaaW.PrintLast Go.Proofs.YtbebfhlejnidkaaW.PrintMore
attribute [local go_sem] max2_int min2_int max_two min_two max_three min_three max_four min_four   -- for this text's walks alone
set_option linter.unusedVariables false
set_option linter.unusedSimpArgs false



def errW : Option Int → Value
 | none => .nilIface
 | some c => .iface 0 (.int .i64 c)
theorem errW_none : errW none = .nilIface := rfl
theorem errW_some (c : Int) : errW (some c) = .iface 0 (.int .i64 c) := rfl

theorem info3 : (Try.prog.info? 3).map (fun i => (i.zero, i.size, i.bytes)) = some (some (.int .i64 0), 1, 8) := by kernel_rfl
theorem info4 : (Try.prog.info? 4).map (fun i => (i.zero, i.size, i.bytes)) = some (some (.bool false), 1, 1) := by kernel_rfl
theorem info24 : (Try.prog.info? 24).map (fun i => (i.zero, i.size, i.bytes)) = some (some (.slice none 0 0), 1, 24) := by kernel_rfl
-- the values' own types
def rd_L1 (xs : List (List Int)) (i : Int) : (List Int) := xs.getD i.toNat ([] : List Int)
theorem at_L1 {w : World} {A : Option Addr} {n : Nat} {xs : List (List Int)} (h : Kd.C (Kd.slice 3 (Kd.int .i64)) w A n xs) (i : Int) (h0 : 0 ≤ i) (h1 : i < n) : ∃ ad A0 c0, A = some ad ∧ w.cell? (ad.add i.toNat) = some (.slice A0 (rd_L1 xs i).length c0) ∧ (rd_L1 xs i).length ≤ c0 ∧ (Kd.int .i64).C w A0 (rd_L1 xs i).length (rd_L1 xs i) := by
 obtain ⟨ad, c, e, _, hK, hc0⟩ := Kd.C_get h ([] : List Int) i h0 h1
 have hc : ∀ j u, c[j]? = some u → w.cell? (ad.add (i.toNat * 1 + j)) = some u := hc0
 obtain ⟨A0, c0, rfl, l0, g0⟩ := hK
 exact ⟨ad, A0, c0, e, by have hq := hc 0 _ rfl; rwa [Nat.mul_one, Nat.add_zero] at hq, l0, g0⟩

theorem leastH_ {w0 w W : World} {P : Nat → Prop} {ad : Addr} {n : Nat} {xs : List (List Int)} {v : Value} {ys : List Bool} (h : ∀ W_, Kept w W_ P → Kd.C (Kd.slice 3 (Kd.int .i64)) W_ (some ad) n xs) (hn : 0 < n) (ho : Kd.R Kd.bool 4 W w0.heap.size (fun k => P k ∨ w.heap.size ≤ k) v ys) (k : Nat) : ¬ (some (ad.add k).block = v.ownBlock) := by
 intro e
 rw [add_block] at e
 rcases ho.1 _ e.symm with h1 | h1
 {
 exact Kd.foot_neS h hn (by decide) h1
 }
 {
 have := Kd.foot_ltS h hn (by decide)
 omega
 }
theorem least_in {w W : World} {P : Nat → Prop} {ad ad2 : Addr} {n m cap : Nat} {xs : List (List Int)} {i : Int} (h : ∀ W_, Kept w W_ P → Kd.C (Kd.slice 3 (Kd.int .i64)) W_ (some ad) n xs) (h0 : 0 ≤ i) (h1 : i < n) (hk : Kept w W P) (hc : W.cell? (ad.add i.toNat) = some (.slice (some ad2) m cap)) : ∀ W_, Kept w W_ P → Kd.C (Kd.int .i64) W_ (some ad2) m (rd_L1 xs i) := by
 have hne : ¬ P (ad.add i.toNat).block := by rw [add_block]; exact Kd.foot_neS h (by omega) (by decide)
 have key : ∀ W_, Kept w W_ P → ∃ A0 c0, w.cell? (ad.add i.toNat) = some (.slice A0 (rd_L1 xs i).length c0) ∧ (Kd.int .i64).C W_ A0 (rd_L1 xs i).length (rd_L1 xs i) := fun W_ hk_ => by
  obtain ⟨ad', A0, c0, e, hx, _, hC⟩ := at_L1 (h W_ hk_) i h0 h1
  obtain rfl := Option.some.inj e
  obtain ⟨ad3, A1, c1, e1, hx1, _, hC1⟩ := at_L1 (h w (Kept.refl w P)) i h0 h1
  obtain rfl := Option.some.inj e1
  have h2 := cell_kept hx1 hk_ hne
  rw [hx] at h2
  injection h2 with h3
  injection h3 with h4 h5 h6
  subst h4
  exact ⟨A0, c1, hx1, hC⟩
 intro W_ hk_
 obtain ⟨A0, c0, hx, hC⟩ := key W_ hk_
 have h2 := cell_kept hx hk hne
 rw [hc] at h2
 injection h2 with h3
 injection h3 with h4 h5 h6
 subst h4 h5
 exact hC
theorem leastE_ {w0 w W : World} {P : Nat → Prop} {ad ad2 : Addr} {n m cap : Nat} {xs : List (List Int)} {i : Int} {v : Value} {ys : List Bool} (h : ∀ W_, Kept w W_ P → Kd.C (Kd.slice 3 (Kd.int .i64)) W_ (some ad) n xs) (h0 : 0 ≤ i) (h1 : i < n) (hk : Kept w W P) (hc : W.cell? (ad.add i.toNat) = some (.slice (some ad2) m cap)) (hm : 0 < m) (ho : Kd.R Kd.bool 4 W w0.heap.size (fun k => P k ∨ w.heap.size ≤ k) v ys) (k : Nat) : ¬ (some (ad2.add k).block = v.ownBlock) := by
 have hi := least_in h h0 h1 hk hc
 intro e
 rw [add_block] at e
 rcases ho.1 _ e.symm with h2 | h2
 {
 exact Kd.foot_neS hi hm (by decide) h2
 }
 {
 have := Kd.foot_ltS hi hm (by decide)
 omega
 }
end Go.Proofs.Ytbebfhlejnidkaa.PFnMatched
