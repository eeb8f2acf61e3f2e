-- Made by a program of this session out of the translation. Lean checks it.
import Derived.Test.YteajnkondkfmgaaProg
import Derived.Lib.Bytealg
import Derived.LoopN
import Derived.Below
import Derived.Deep.Draws
import Derived.Deep.AppendLies
import Derived.Maps.AppendAt
import Derived.OwnWalk
import Derived.Laws.BytesArg
import Derived.Laws.MakeOwn
import Derived.Laws.OwnMore
import Derived.Deep.OwnRows
import Derived.Tactics
import Derived.Lib.ConvBytes
import Derived.Laws.Slices
import Derived.WalkKit
import Derived.KernelRfl
import Derived.RowKit3
import Derived.Deep.LoopGhost
import Derived.Deep.QuietTactic
import Derived.BigQuiet
import Derived.WideLaws
import Derived.Deep.DeepCutAuto
import Derived.Deep.CutBlock
import Derived.Deep.RegionHeld3
import Derived.Laws.Rows
import Derived.Lib.AppendStr
import Derived.ArgAppend
import Derived.Laws.IdiomCopy
import Derived.OrdersHeld
import Derived.Laws.BitsLemmas
import Derived.RowKit
import Derived.Test.YteajnkondkfmgaaVFnEach
namespace Go.Proofs.Yteajnkondkfmgaa.PFnEach
open Go.RowKit Go.Proofs.YteajnkondkfmgaaW.PrintWords Go.Proofs.YteajnkondkfmgaaW.PrintLast Go.Proofs.YteajnkondkfmgaaW.PrintMore
attribute [local go_sem] max2_int min2_int max_two min_two max_three min_three max_four min_four   -- for this text's walks alone
set_option linter.unusedVariables false
set_option linter.unusedSimpArgs false



def errW : Option Int → Value
 | none => .nilIface
 | some c => .iface 0 (.int .i64 c)
theorem errW_none : errW none = .nilIface := rfl
theorem errW_some (c : Int) : errW (some c) = .iface 0 (.int .i64 c) := rfl

theorem info3 : (Try.prog.info? 3).map (fun i => (i.zero, i.size, i.bytes)) = some (some (.int .i64 0), 1, 8) := by kernel_rfl
theorem info4 : (Try.prog.info? 4).map (fun i => (i.zero, i.size, i.bytes)) = some (some (.bool false), 1, 1) := by kernel_rfl
theorem info48 : (Try.prog.info? 48).map (fun i => (i.zero, i.size, i.bytes)) = some (some (.agg #[(.int .i64 0), (.int .i64 0)]), 2, 16) := by kernel_rfl
theorem info50 : (Try.prog.info? 50).map (fun i => (i.zero, i.size, i.bytes)) = some (some (.agg #[(.int .i64 0), (.int .i64 0), (.int .i64 0)]), 3, 24) := by kernel_rfl
theorem info72 : (Try.prog.info? 72).map (fun i => (i.zero, i.size, i.bytes)) = some (some (.agg #[(.int .i64 0), (.int .i64 0), (.int .i64 0)]), 3, 24) := by kernel_rfl
theorem info79 : (Try.prog.info? 79).map (fun i => (i.zero, i.size, i.bytes)) = some (some (.agg #[(.int .i64 0), (.int .i64 0), (.slice none 0 0)]), 3, 40) := by kernel_rfl
-- the values' own types
/-! #### struct type 72 -/
structure S72 where
 f0 : Int
 f1 : Int
 f2 : Int
def z72 : S72 := ⟨(0 : Int), (0 : Int), (0 : Int)⟩
def k72 : Kd S72 := Kd.iso (Kd.pair (Kd.int .i64) (Kd.pair (Kd.int .i64) (Kd.int .i64))) (fun x : S72 => (x.f0, x.f1, x.f2))
theorem k72_open {w : World} {x : S72} {cs : List Value} (h : k72.K w x cs) : cs = [.int .i64 x.f0, .int .i64 x.f1, .int .i64 x.f2] := by
 obtain ⟨_, _, rfl, rfl, ⟨_, _, rfl, rfl, rfl⟩⟩ := h
 exact rfl
theorem k72_openM {w : World} {base : Nat} {ok : Nat → Prop} {x : S72} {cs : List Value} (h : k72.M w base ok x cs) : cs = [.int .i64 x.f0, .int .i64 x.f1, .int .i64 x.f2] := by
 obtain ⟨_, _, rfl, rfl, ⟨_, _, rfl, rfl, rfl⟩⟩ := h
 exact rfl
theorem k72_mk (w : World) (x : S72)  : k72.K w x [.int .i64 x.f0, .int .i64 x.f1, .int .i64 x.f2] := ⟨[.int .i64 x.f0], [.int .i64 x.f1, .int .i64 x.f2], rfl, rfl, ⟨[.int .i64 x.f1], [.int .i64 x.f2], rfl, rfl, rfl⟩⟩
theorem k72_mkM (w : World) (base : Nat) (ok : Nat → Prop) (x : S72)  : k72.M w base ok x [.int .i64 x.f0, .int .i64 x.f1, .int .i64 x.f2] := ⟨[.int .i64 x.f0], [.int .i64 x.f1, .int .i64 x.f2], rfl, rfl, ⟨[.int .i64 x.f1], [.int .i64 x.f2], rfl, rfl, rfl⟩⟩
theorem k72_mkF (W : World) (ok : Nat → Prop) (x : S72) : Kd.FK k72 W ok x [.int .i64 x.f0, .int .i64 x.f1, .int .i64 x.f2] := fun W2 _ => k72_mk W2 x
def rd_T72 (xs : List S72) (i : Int) : S72 := xs.getD i.toNat z72
theorem at_T72 {w : World} {A : Option Addr} {n : Nat} {xs : List S72} (h : Kd.C k72 w A n xs) (i : Int) (h0 : 0 ≤ i) (h1 : i < n) : ∃ ad , A = some ad ∧ w.cell? (ad.add (i.toNat * 3)) = some (.int .i64 (rd_T72 xs i).f0) ∧ w.cell? ⟨(ad.add (i.toNat * 3)).block, (ad.add (i.toNat * 3)).off + 1, none⟩ = some (.int .i64 (rd_T72 xs i).f1) ∧ w.cell? ⟨(ad.add (i.toNat * 3)).block, (ad.add (i.toNat * 3)).off + 2, none⟩ = some (.int .i64 (rd_T72 xs i).f2) := by
 obtain ⟨ad, c, e, _, hK, hc0⟩ := Kd.C_get h z72 i h0 h1
 have hc : ∀ j u, c[j]? = some u → w.cell? (ad.add (i.toNat * 3 + j)) = some u := hc0
 obtain rfl := k72_open hK
 exact ⟨ad, e, hc 0 _ rfl, by rw [← add_field _ _ 1 (by omega)]; exact hc 1 _ rfl, by rw [← add_field _ _ 2 (by omega)]; exact hc 2 _ rfl⟩

def rd_L3 (xs : List (List S72)) (i : Int) : (List S72) := xs.getD i.toNat ([] : List S72)
theorem at_L3 {w : World} {A : Option Addr} {n : Nat} {xs : List (List S72)} (h : Kd.C (Kd.slice 72 k72) w A n xs) (i : Int) (h0 : 0 ≤ i) (h1 : i < n) : ∃ ad A0 c0, A = some ad ∧ w.cell? (ad.add i.toNat) = some (.slice A0 (rd_L3 xs i).length c0) ∧ (rd_L3 xs i).length ≤ c0 ∧ k72.C w A0 (rd_L3 xs i).length (rd_L3 xs i) := by
 obtain ⟨ad, c, e, _, hK, hc0⟩ := Kd.C_get h ([] : List S72) i h0 h1
 have hc : ∀ j u, c[j]? = some u → w.cell? (ad.add (i.toNat * 1 + j)) = some u := hc0
 obtain ⟨A0, c0, rfl, l0, g0⟩ := hK
 exact ⟨ad, A0, c0, e, by have hq := hc 0 _ rfl; rwa [Nat.mul_one, Nat.add_zero] at hq, l0, g0⟩

/-! #### struct type 79 -/
structure S79 where
 f0 : Int
 f1 : Int
 f2 : (List S72)
def z79 : S79 := ⟨(0 : Int), (0 : Int), ([] : List S72)⟩
def k79 : Kd S79 := Kd.iso (Kd.pair (Kd.int .i64) (Kd.pair (Kd.int .i64) (Kd.slice 72 k72))) (fun x : S79 => (x.f0, x.f1, x.f2))
theorem k79_open {w : World} {x : S79} {cs : List Value} (h : k79.K w x cs) : ∃ A2 c2, cs = [.int .i64 x.f0, .int .i64 x.f1, .slice A2 x.f2.length c2] ∧ x.f2.length ≤ c2 ∧ k72.C w A2 x.f2.length x.f2 := by
 obtain ⟨_, _, rfl, rfl, ⟨_, _, rfl, rfl, ⟨A2, c2, rfl, l2, g2⟩⟩⟩ := h
 exact ⟨A2, c2, rfl, l2, g2⟩
theorem k79_openM {w : World} {base : Nat} {ok : Nat → Prop} {x : S79} {cs : List Value} (h : k79.M w base ok x cs) : ∃ v2, cs = [.int .i64 x.f0, .int .i64 x.f1, v2] ∧ k72.R 72 w base ok v2 x.f2 := by
 obtain ⟨_, _, rfl, rfl, ⟨_, _, rfl, rfl, ⟨v2, rfl, g2⟩⟩⟩ := h
 exact ⟨v2, rfl, g2⟩
theorem k79_mk (w : World) (x : S79) {A2 : Option Addr} {c2 : Nat} (l2 : x.f2.length ≤ c2) (g2 : k72.C w A2 x.f2.length x.f2) : k79.K w x [.int .i64 x.f0, .int .i64 x.f1, .slice A2 x.f2.length c2] := ⟨[.int .i64 x.f0], [.int .i64 x.f1, .slice A2 x.f2.length c2], rfl, rfl, ⟨[.int .i64 x.f1], [.slice A2 x.f2.length c2], rfl, rfl, ⟨A2, c2, rfl, l2, g2⟩⟩⟩
theorem k79_mkM (w : World) (base : Nat) (ok : Nat → Prop) (x : S79) {v2 : Value} (g2 : k72.R 72 w base ok v2 x.f2) : k79.M w base ok x [.int .i64 x.f0, .int .i64 x.f1, v2] := ⟨[.int .i64 x.f0], [.int .i64 x.f1, v2], rfl, rfl, ⟨[.int .i64 x.f1], [v2], rfl, rfl, ⟨v2, rfl, g2⟩⟩⟩
theorem k79_openF {W : World} {ok : Nat → Prop} {x : S79} {cs : List Value} (h : Kd.FK k79 W ok x cs) : ∃ A2 c2, cs = [.int .i64 x.f0, .int .i64 x.f1, .slice A2 x.f2.length c2] ∧ x.f2.length ≤ c2 ∧ Kd.F k72 W ok A2 x.f2.length x.f2 := by
 obtain ⟨A2, c2, rfl, l2, _⟩ := k79_open (Kd.FK_now h)
 exact ⟨A2, c2, rfl, l2, (fun W' hW => by obtain ⟨A2_, c2_, he, l2_, g2_⟩ := k79_open (h W' hW); injection (Option.some.inj (show some (Value.slice A2 x.f2.length c2) = some (Value.slice A2_ x.f2.length c2_) from congrArg (fun l => l[2]?) he)) with ha_ _ _; rw [ha_]; exact g2_)⟩
theorem k79_mkF (W : World) (ok : Nat → Prop) (x : S79) {A2 : Option Addr} {c2 : Nat} (l2 : x.f2.length ≤ c2) (g2 : Kd.F k72 W ok A2 x.f2.length x.f2) : Kd.FK k79 W ok x [.int .i64 x.f0, .int .i64 x.f1, .slice A2 x.f2.length c2] := fun W2 hW => k79_mk W2 x l2 (g2 W2 hW)
def rd_T79 (xs : List S79) (i : Int) : S79 := xs.getD i.toNat z79
theorem at_T79 {w : World} {A : Option Addr} {n : Nat} {xs : List S79} (h : Kd.C k79 w A n xs) (i : Int) (h0 : 0 ≤ i) (h1 : i < n) : ∃ ad A2 c2, A = some ad ∧ w.cell? (ad.add (i.toNat * 3)) = some (.int .i64 (rd_T79 xs i).f0) ∧ w.cell? ⟨(ad.add (i.toNat * 3)).block, (ad.add (i.toNat * 3)).off + 1, none⟩ = some (.int .i64 (rd_T79 xs i).f1) ∧ w.cell? ⟨(ad.add (i.toNat * 3)).block, (ad.add (i.toNat * 3)).off + 2, none⟩ = some (.slice A2 (rd_T79 xs i).f2.length c2) ∧ (rd_T79 xs i).f2.length ≤ c2 ∧ k72.C w A2 (rd_T79 xs i).f2.length (rd_T79 xs i).f2 := by
 obtain ⟨ad, c, e, _, hK, hc0⟩ := Kd.C_get h z79 i h0 h1
 have hc : ∀ j u, c[j]? = some u → w.cell? (ad.add (i.toNat * 3 + j)) = some u := hc0
 obtain ⟨A2, c2, rfl, l2, g2⟩ := k79_open hK
 exact ⟨ad, A2, c2, e, hc 0 _ rfl, by rw [← add_field _ _ 1 (by omega)]; exact hc 1 _ rfl, by rw [← add_field _ _ 2 (by omega)]; exact hc 2 _ rfl, l2, g2⟩

def rd_L5 (xs : List (List S79)) (i : Int) : (List S79) := xs.getD i.toNat ([] : List S79)
theorem at_L5 {w : World} {A : Option Addr} {n : Nat} {xs : List (List S79)} (h : Kd.C (Kd.slice 79 k79) w A n xs) (i : Int) (h0 : 0 ≤ i) (h1 : i < n) : ∃ ad A0 c0, A = some ad ∧ w.cell? (ad.add i.toNat) = some (.slice A0 (rd_L5 xs i).length c0) ∧ (rd_L5 xs i).length ≤ c0 ∧ k79.C w A0 (rd_L5 xs i).length (rd_L5 xs i) := by
 obtain ⟨ad, c, e, _, hK, hc0⟩ := Kd.C_get h ([] : List S79) i h0 h1
 have hc : ∀ j u, c[j]? = some u → w.cell? (ad.add (i.toNat * 1 + j)) = some u := hc0
 obtain ⟨A0, c0, rfl, l0, g0⟩ := hK
 exact ⟨ad, A0, c0, e, by have hq := hc 0 _ rfl; rwa [Nat.mul_one, Nat.add_zero] at hq, l0, g0⟩

/-! #### struct type 26 -/
structure S26 where
 f0 : (List S79)
def z26 : S26 := ⟨([] : List S79)⟩
def k26 : Kd S26 := Kd.iso (Kd.slice 79 k79) (fun x : S26 => x.f0)
theorem k26_open {w : World} {x : S26} {cs : List Value} (h : k26.K w x cs) : ∃ A0 c0, cs = [.slice A0 x.f0.length c0] ∧ x.f0.length ≤ c0 ∧ k79.C w A0 x.f0.length x.f0 := by
 obtain ⟨A0, c0, rfl, l0, g0⟩ := h
 exact ⟨A0, c0, rfl, l0, g0⟩
theorem k26_openM {w : World} {base : Nat} {ok : Nat → Prop} {x : S26} {cs : List Value} (h : k26.M w base ok x cs) : ∃ v0, cs = [v0] ∧ k79.R 79 w base ok v0 x.f0 := by
 obtain ⟨v0, rfl, g0⟩ := h
 exact ⟨v0, rfl, g0⟩
theorem k26_mk (w : World) (x : S26) {A0 : Option Addr} {c0 : Nat} (l0 : x.f0.length ≤ c0) (g0 : k79.C w A0 x.f0.length x.f0) : k26.K w x [.slice A0 x.f0.length c0] := ⟨A0, c0, rfl, l0, g0⟩
theorem k26_mkM (w : World) (base : Nat) (ok : Nat → Prop) (x : S26) {v0 : Value} (g0 : k79.R 79 w base ok v0 x.f0) : k26.M w base ok x [v0] := ⟨v0, rfl, g0⟩
theorem k26_openF {W : World} {ok : Nat → Prop} {x : S26} {cs : List Value} (h : Kd.FK k26 W ok x cs) : ∃ A0 c0, cs = [.slice A0 x.f0.length c0] ∧ x.f0.length ≤ c0 ∧ Kd.F k79 W ok A0 x.f0.length x.f0 := by
 obtain ⟨A0, c0, rfl, l0, _⟩ := k26_open (Kd.FK_now h)
 exact ⟨A0, c0, rfl, l0, (fun W' hW => by obtain ⟨A0_, c0_, he, l0_, g0_⟩ := k26_open (h W' hW); injection (Option.some.inj (show some (Value.slice A0 x.f0.length c0) = some (Value.slice A0_ x.f0.length c0_) from congrArg (fun l => l[0]?) he)) with ha_ _ _; rw [ha_]; exact g0_)⟩
theorem k26_mkF (W : World) (ok : Nat → Prop) (x : S26) {A0 : Option Addr} {c0 : Nat} (l0 : x.f0.length ≤ c0) (g0 : Kd.F k79 W ok A0 x.f0.length x.f0) : Kd.FK k26 W ok x [.slice A0 x.f0.length c0] := fun W2 hW => k26_mk W2 x l0 (g0 W2 hW)
def rd_T26 (xs : List S26) (i : Int) : S26 := xs.getD i.toNat z26
theorem at_T26 {w : World} {A : Option Addr} {n : Nat} {xs : List S26} (h : Kd.C k26 w A n xs) (i : Int) (h0 : 0 ≤ i) (h1 : i < n) : ∃ ad A0 c0, A = some ad ∧ w.cell? (ad.add i.toNat) = some (.slice A0 (rd_T26 xs i).f0.length c0) ∧ (rd_T26 xs i).f0.length ≤ c0 ∧ k79.C w A0 (rd_T26 xs i).f0.length (rd_T26 xs i).f0 := by
 obtain ⟨ad, c, e, _, hK, hc0⟩ := Kd.C_get h z26 i h0 h1
 have hc : ∀ j u, c[j]? = some u → w.cell? (ad.add (i.toNat * 1 + j)) = some u := hc0
 obtain ⟨A0, c0, rfl, l0, g0⟩ := k26_open hK
 exact ⟨ad, A0, c0, e, by have hq := hc 0 _ rfl; rwa [Nat.mul_one, Nat.add_zero] at hq, l0, g0⟩

/-! #### struct type 50 -/
structure S50 where
 f0 : Int
 f1 : Int
 f2 : Int
def z50 : S50 := ⟨(0 : Int), (0 : Int), (0 : Int)⟩
def k50 : Kd S50 := Kd.iso (Kd.pair (Kd.int .i64) (Kd.pair (Kd.int .i64) (Kd.int .i64))) (fun x : S50 => (x.f0, x.f1, x.f2))
theorem k50_open {w : World} {x : S50} {cs : List Value} (h : k50.K w x cs) : cs = [.int .i64 x.f0, .int .i64 x.f1, .int .i64 x.f2] := by
 obtain ⟨_, _, rfl, rfl, ⟨_, _, rfl, rfl, rfl⟩⟩ := h
 exact rfl
theorem k50_openM {w : World} {base : Nat} {ok : Nat → Prop} {x : S50} {cs : List Value} (h : k50.M w base ok x cs) : cs = [.int .i64 x.f0, .int .i64 x.f1, .int .i64 x.f2] := by
 obtain ⟨_, _, rfl, rfl, ⟨_, _, rfl, rfl, rfl⟩⟩ := h
 exact rfl
theorem k50_mk (w : World) (x : S50)  : k50.K w x [.int .i64 x.f0, .int .i64 x.f1, .int .i64 x.f2] := ⟨[.int .i64 x.f0], [.int .i64 x.f1, .int .i64 x.f2], rfl, rfl, ⟨[.int .i64 x.f1], [.int .i64 x.f2], rfl, rfl, rfl⟩⟩
theorem k50_mkM (w : World) (base : Nat) (ok : Nat → Prop) (x : S50)  : k50.M w base ok x [.int .i64 x.f0, .int .i64 x.f1, .int .i64 x.f2] := ⟨[.int .i64 x.f0], [.int .i64 x.f1, .int .i64 x.f2], rfl, rfl, ⟨[.int .i64 x.f1], [.int .i64 x.f2], rfl, rfl, rfl⟩⟩
theorem k50_mkF (W : World) (ok : Nat → Prop) (x : S50) : Kd.FK k50 W ok x [.int .i64 x.f0, .int .i64 x.f1, .int .i64 x.f2] := fun W2 _ => k50_mk W2 x
def rd_T50 (xs : List S50) (i : Int) : S50 := xs.getD i.toNat z50
theorem at_T50 {w : World} {A : Option Addr} {n : Nat} {xs : List S50} (h : Kd.C k50 w A n xs) (i : Int) (h0 : 0 ≤ i) (h1 : i < n) : ∃ ad , A = some ad ∧ w.cell? (ad.add (i.toNat * 3)) = some (.int .i64 (rd_T50 xs i).f0) ∧ w.cell? ⟨(ad.add (i.toNat * 3)).block, (ad.add (i.toNat * 3)).off + 1, none⟩ = some (.int .i64 (rd_T50 xs i).f1) ∧ w.cell? ⟨(ad.add (i.toNat * 3)).block, (ad.add (i.toNat * 3)).off + 2, none⟩ = some (.int .i64 (rd_T50 xs i).f2) := by
 obtain ⟨ad, c, e, _, hK, hc0⟩ := Kd.C_get h z50 i h0 h1
 have hc : ∀ j u, c[j]? = some u → w.cell? (ad.add (i.toNat * 3 + j)) = some u := hc0
 obtain rfl := k50_open hK
 exact ⟨ad, e, hc 0 _ rfl, by rw [← add_field _ _ 1 (by omega)]; exact hc 1 _ rfl, by rw [← add_field _ _ 2 (by omega)]; exact hc 2 _ rfl⟩

def rd_L8 (xs : List (List S50)) (i : Int) : (List S50) := xs.getD i.toNat ([] : List S50)
theorem at_L8 {w : World} {A : Option Addr} {n : Nat} {xs : List (List S50)} (h : Kd.C (Kd.slice 50 k50) w A n xs) (i : Int) (h0 : 0 ≤ i) (h1 : i < n) : ∃ ad A0 c0, A = some ad ∧ w.cell? (ad.add i.toNat) = some (.slice A0 (rd_L8 xs i).length c0) ∧ (rd_L8 xs i).length ≤ c0 ∧ k50.C w A0 (rd_L8 xs i).length (rd_L8 xs i) := by
 obtain ⟨ad, c, e, _, hK, hc0⟩ := Kd.C_get h ([] : List S50) i h0 h1
 have hc : ∀ j u, c[j]? = some u → w.cell? (ad.add (i.toNat * 1 + j)) = some u := hc0
 obtain ⟨A0, c0, rfl, l0, g0⟩ := hK
 exact ⟨ad, A0, c0, e, by have hq := hc 0 _ rfl; rwa [Nat.mul_one, Nat.add_zero] at hq, l0, g0⟩

/-! #### struct type 48 -/
structure S48 where
 f0 : Int
 f1 : Int
def z48 : S48 := ⟨(0 : Int), (0 : Int)⟩
def k48 : Kd S48 := Kd.iso (Kd.pair (Kd.int .i64) (Kd.int .i64)) (fun x : S48 => (x.f0, x.f1))
theorem k48_open {w : World} {x : S48} {cs : List Value} (h : k48.K w x cs) : cs = [.int .i64 x.f0, .int .i64 x.f1] := by
 obtain ⟨_, _, rfl, rfl, rfl⟩ := h
 exact rfl
theorem k48_openM {w : World} {base : Nat} {ok : Nat → Prop} {x : S48} {cs : List Value} (h : k48.M w base ok x cs) : cs = [.int .i64 x.f0, .int .i64 x.f1] := by
 obtain ⟨_, _, rfl, rfl, rfl⟩ := h
 exact rfl
theorem k48_mk (w : World) (x : S48)  : k48.K w x [.int .i64 x.f0, .int .i64 x.f1] := ⟨[.int .i64 x.f0], [.int .i64 x.f1], rfl, rfl, rfl⟩
theorem k48_mkM (w : World) (base : Nat) (ok : Nat → Prop) (x : S48)  : k48.M w base ok x [.int .i64 x.f0, .int .i64 x.f1] := ⟨[.int .i64 x.f0], [.int .i64 x.f1], rfl, rfl, rfl⟩
theorem k48_mkF (W : World) (ok : Nat → Prop) (x : S48) : Kd.FK k48 W ok x [.int .i64 x.f0, .int .i64 x.f1] := fun W2 _ => k48_mk W2 x
def rd_T48 (xs : List S48) (i : Int) : S48 := xs.getD i.toNat z48
theorem at_T48 {w : World} {A : Option Addr} {n : Nat} {xs : List S48} (h : Kd.C k48 w A n xs) (i : Int) (h0 : 0 ≤ i) (h1 : i < n) : ∃ ad , A = some ad ∧ w.cell? (ad.add (i.toNat * 2)) = some (.int .i64 (rd_T48 xs i).f0) ∧ w.cell? ⟨(ad.add (i.toNat * 2)).block, (ad.add (i.toNat * 2)).off + 1, none⟩ = some (.int .i64 (rd_T48 xs i).f1) := by
 obtain ⟨ad, c, e, _, hK, hc0⟩ := Kd.C_get h z48 i h0 h1
 have hc : ∀ j u, c[j]? = some u → w.cell? (ad.add (i.toNat * 2 + j)) = some u := hc0
 obtain rfl := k48_open hK
 exact ⟨ad, e, hc 0 _ rfl, by rw [← add_field _ _ 1 (by omega)]; exact hc 1 _ rfl⟩

theorem blk_new1 (w : World) (o o' : Obj) : ((w.alloc o).alloc o').heap[w.heap.size + 1]? = some o' := by
 have h := blk_new (w.alloc o) o'
 have e : (w.alloc o).heap.size = w.heap.size + 1 := by simp
 rwa [e] at h
theorem blk_new2 (w : World) (o o' o'' : Obj) : (((w.alloc o).alloc o').alloc o'').heap[w.heap.size + 1 + 1]? = some o'' := by
 have h := blk_new ((w.alloc o).alloc o') o''
 have e : ((w.alloc o).alloc o').heap.size = w.heap.size + 1 + 1 := by simp
 rwa [e] at h
theorem S_box {α : Type} {d : Kd α} {e base g : Nat} {w : World} {ok : Nat → Prop} {v : Value} {xs : List α} (h : Kd.S d e w base ok v xs) (hg : g < base) (u : Value) : Kd.S d e (w.setCell ⟨g, 0, none⟩ u) base ok v xs :=
 Kd.S_mono (Kd.S_far (p := ⟨g, 0, none⟩) (Kd.S_bound h) (fun k hk => by have := hk.2.1; show k ≠ g; omega) u) (fun _ hk => hk.1)
/-- Element i of a row of pods that lie apart: its cells, its stacks' row, and the row without it. -/
theorem S79_at {W : World} {base : Nat} {ok : Nat → Prop} {A : Option Addr} {n c : Nat} {xs : List S79} (h : Kd.S k79 79 W base ok (.slice A n c) xs) (i : Int) (h0 : 0 ≤ i) (h1 : i < (xs.length : Int)) :
  ∃ (g : Nat) (oki : Nat → Prop) (A2 : Option Addr) (c2 : Nat), A = some ⟨g, 0, none⟩ ∧ base ≤ g ∧ g < W.heap.size ∧ W.cell? ⟨g, i.toNat * 3, none⟩ = some (.int .i64 (rd_T79 xs i).f0) ∧ W.cell? ⟨g, i.toNat * 3 + 1, none⟩ = some (.int .i64 (rd_T79 xs i).f1) ∧ W.cell? ⟨g, i.toNat * 3 + 2, none⟩ = some (.slice A2 (rd_T79 xs i).f2.length c2) ∧
   W.frozen? ⟨g, i.toNat * 3, none⟩ = false ∧ W.frozen? ⟨g, i.toNat * 3 + 1, none⟩ = false ∧ W.frozen? ⟨g, i.toNat * 3 + 2, none⟩ = false ∧ Kd.R k72 72 W base oki (.slice A2 (rd_T79 xs i).f2.length c2) (rd_T79 xs i).f2 ∧ (∀ k, oki k → ok k ∧ k ≠ g) ∧ n = xs.length ∧
   Kd.H k79 79 W base ok (.slice A n c) xs i oki [.int .i64 (rd_T79 xs i).f0, .int .i64 (rd_T79 xs i).f1, .slice A2 (rd_T79 xs i).f2.length c2] := by
 have hn := (Kd.S_reads' h).1
 obtain ⟨g, cap, e, hgb, hgl, hc⟩ := Kd.S_form h (by omega)
 cases e
 obtain ⟨oki, cs, hcl, hM, hcc, hfr, hoki, hH⟩ := Kd.S_elem h z79 i h0 (by omega)
 obtain ⟨v2, rfl, hR⟩ := k79_openM hM
 obtain ⟨A2, c2, rfl⟩ := Kd.R_slice hR
 exact ⟨g, oki, A2, c2, rfl, hgb, hgl, hcc 0 _ rfl, hcc 1 _ rfl, hcc 2 _ rfl, hfr 0, hfr 1, hfr 2, hR, hoki, rfl, hH⟩
/-- Element j of a row of stacks. -/
theorem R72_at {W : World} {base : Nat} {ok : Nat → Prop} {A : Option Addr} {n c : Nat} {xs : List S72} (h : Kd.R k72 72 W base ok (.slice A n c) xs) (j : Int) (h0 : 0 ≤ j) (h1 : j < (xs.length : Int)) :
  ∃ g : Nat, A = some ⟨g, 0, none⟩ ∧ base ≤ g ∧ g < W.heap.size ∧ ok g ∧ n = xs.length ∧ W.cell? ⟨g, j.toNat * 3, none⟩ = some (.int .i64 (rd_T72 xs j).f0) ∧ W.cell? ⟨g, j.toNat * 3 + 1, none⟩ = some (.int .i64 (rd_T72 xs j).f1) ∧ W.cell? ⟨g, j.toNat * 3 + 2, none⟩ = some (.int .i64 (rd_T72 xs j).f2) ∧
   W.frozen? ⟨g, j.toNat * 3, none⟩ = false ∧ W.frozen? ⟨g, j.toNat * 3 + 1, none⟩ = false ∧ W.frozen? ⟨g, j.toNat * 3 + 2, none⟩ = false ∧
   (∀ x : Int, Kd.R k72 72 (W.setCell ⟨g, j.toNat * 3 + 1, none⟩ (.int .i64 x)) base ok (.slice A n c) (xs.set j.toNat ⟨(rd_T72 xs j).f0, x, (rd_T72 xs j).f2⟩) ∧ W.grownBy (W.setCell ⟨g, j.toNat * 3 + 1, none⟩ (.int .i64 x)) (some g)) ∧
   (∀ x : Int, Kd.R k72 72 (W.setCell ⟨g, j.toNat * 3 + 2, none⟩ (.int .i64 x)) base ok (.slice A n c) (xs.set j.toNat ⟨(rd_T72 xs j).f0, (rd_T72 xs j).f1, x⟩) ∧ W.grownBy (W.setCell ⟨g, j.toNat * 3 + 2, none⟩ (.int .i64 x)) (some g)) := by
 have hn := (Kd.R_reads' h).1
 obtain ⟨g, cap, e, hgb, hgl, hc⟩ := Kd.R_form h (by omega)
 cases e
 obtain ⟨cs, hcl, hM, hcc, hfr⟩ := Kd.R_elem h z72 j h0 (by omega)
 obtain rfl := k72_openM hM
 refine ⟨g, rfl, hgb, hgl, h.1 g rfl, rfl, hcc 0 _ rfl, hcc 1 _ rfl, hcc 2 _ rfl, hfr 0, hfr 1, hfr 2, fun x => ?_, fun x => ?_⟩
 {
 exact Kd.R_seg h j h0 (by omega) (seg := [.int .i64 x]) (j := 1) hcl hcc (show 2 ≤ 3 from by decide) (x' := (⟨(rd_T72 xs j).f0, x, (rd_T72 xs j).f2⟩ : S72)) (k72_mkM _ _ _ (⟨(rd_T72 xs j).f0, x, (rd_T72 xs j).f2⟩ : S72)) (fun _ hk => hk)
 }
 {
 exact Kd.R_seg h j h0 (by omega) (seg := [.int .i64 x]) (j := 2) hcl hcc (show 3 ≤ 3 from by decide) (x' := (⟨(rd_T72 xs j).f0, (rd_T72 xs j).f1, x⟩ : S72)) (k72_mkM _ _ _ (⟨(rd_T72 xs j).f0, (rd_T72 xs j).f1, x⟩ : S72)) (fun _ hk => hk)
 }
/-- A stack's field is written, in a row of pods that lie apart. -/
theorem S79_put {W : World} {base : Nat} {ok : Nat → Prop} {g g2 n c c2 : Nat} {xs : List S79} (h : Kd.S k79 79 W base ok (.slice (some ⟨g, 0, none⟩) n c) xs) (i j : Int) (h0 : 0 ≤ i) (h1 : i < (xs.length : Int)) (hj0 : 0 ≤ j) (hj1 : j < ((rd_T79 xs i).f2.length : Int))
  (hc : W.cell? ⟨g, i.toNat * 3 + 2, none⟩ = some (.slice (some ⟨g2, 0, none⟩) (rd_T79 xs i).f2.length c2)) (x : Int) :
  (Kd.S k79 79 (W.setCell ⟨g2, j.toNat * 3 + 1, none⟩ (.int .i64 x)) base ok (.slice (some ⟨g, 0, none⟩) n c) (xs.set i.toNat ⟨(rd_T79 xs i).f0, (rd_T79 xs i).f1, (rd_T79 xs i).f2.set j.toNat ⟨(rd_T72 (rd_T79 xs i).f2 j).f0, x, (rd_T72 (rd_T79 xs i).f2 j).f2⟩⟩) ∧ W.grownBy (W.setCell ⟨g2, j.toNat * 3 + 1, none⟩ (.int .i64 x)) (some g2)) ∧
  (Kd.S k79 79 (W.setCell ⟨g2, j.toNat * 3 + 2, none⟩ (.int .i64 x)) base ok (.slice (some ⟨g, 0, none⟩) n c) (xs.set i.toNat ⟨(rd_T79 xs i).f0, (rd_T79 xs i).f1, (rd_T79 xs i).f2.set j.toNat ⟨(rd_T72 (rd_T79 xs i).f2 j).f0, (rd_T72 (rd_T79 xs i).f2 j).f1, x⟩⟩) ∧ W.grownBy (W.setCell ⟨g2, j.toNat * 3 + 2, none⟩ (.int .i64 x)) (some g2)) ∧ base ≤ g2 ∧ ok g2 ∧ g2 ≠ g ∧ g2 < W.heap.size := by
 obtain ⟨g', oki, A2, c2', e, _, _, x0, x1, x2, _, _, _, hR, hoki, _, hH⟩ := S79_at h i h0 h1
 injection e with e; injection e with e
 subst e
 have e2 := Option.some.inj (hc.symm.trans x2)
 injection e2 with e3 _ e4
 subst e3; subst e4
 obtain ⟨g2', e, hb, hl, hok, _, _, _, _, _, _, _, hp1, hp2⟩ := R72_at hR j hj0 hj1
 injection e with e; injection e with e
 subst e
 refine ⟨⟨?_, (hp1 x).2⟩, ⟨?_, (hp2 x).2⟩, hb, (hoki _ hok).1, (hoki _ hok).2, hl⟩
 {
 exact Kd.H_back (okp := oki) (Kd.H_grown hH (hp1 x).2 (fun k hk => by injection hk with hk; subst hk; exact hok)) (k79_mkM _ _ _ ⟨(rd_T79 xs i).f0, (rd_T79 xs i).f1, (rd_T79 xs i).f2.set j.toNat ⟨(rd_T72 (rd_T79 xs i).f2 j).f0, x, (rd_T72 (rd_T79 xs i).f2 j).f2⟩⟩ (hp1 x).1) (fun _ hk => hk)
 }
 {
 exact Kd.H_back (okp := oki) (Kd.H_grown hH (hp2 x).2 (fun k hk => by injection hk with hk; subst hk; exact hok)) (k79_mkM _ _ _ ⟨(rd_T79 xs i).f0, (rd_T79 xs i).f1, (rd_T79 xs i).f2.set j.toNat ⟨(rd_T72 (rd_T79 xs i).f2 j).f0, (rd_T72 (rd_T79 xs i).f2 j).f1, x⟩⟩ (hp2 x).1) (fun _ hk => hk)
 }
/-- A pod's stacks are another row, a new one. -/
theorem S79_row {W : World} {base B : Nat} {ok : Nat → Prop} {g n c : Nat} {xs : List S79} (h : Kd.S k79 79 W base ok (.slice (some ⟨g, 0, none⟩) n c) xs) (hold : ∀ k, B ≤ k → ok k → False) {ys : List S72} {v : Value} (hy : Kd.R k72 72 W B (fun _ => True) v ys) (hbB : base ≤ B) (i : Int) (h0 : 0 ≤ i) (h1 : i < (xs.length : Int)) (hgB : g < B) :
  Kd.S k79 79 (W.setCell ⟨g, i.toNat * 3 + 2, none⟩ v) base (fun k => ok k ∨ B ≤ k) (.slice (some ⟨g, 0, none⟩) n c) (xs.set i.toNat ⟨(rd_T79 xs i).f0, (rd_T79 xs i).f1, ys⟩) ∧ W.grownBy (W.setCell ⟨g, i.toNat * 3 + 2, none⟩ v) (some g) := by
 obtain ⟨g', oki, A2, c2', e, hg1, hg2, x0, x1, x2, _, _, _, hR, hoki, hn, hH⟩ := S79_at h i h0 h1
 injection e with e; injection e with e
 subst e
 have hH2 : Kd.H k79 79 W base (fun k => (ok k ∨ B ≤ k) ∧ ¬ (B ≤ k)) (.slice (some ⟨g, 0, none⟩) n c) xs i oki [.int .i64 (rd_T79 xs i).f0, .int .i64 (rd_T79 xs i).f1, .slice A2 (rd_T79 xs i).f2.length c2'] :=
  Kd.H_mono hH (fun k hk => ⟨.inl hk, fun hB => hold k hB hk⟩)
 obtain ⟨A3, c3, rfl⟩ := Kd.R_slice hy
 exact Kd.S_seg (okg := fun k => B ≤ k) (okp := fun k => B ≤ k) hH2 h0 (by omega) (seg := [.slice A3 ys.length c3]) (j := 2) (show 3 ≤ 3 from by decide) (x' := ⟨(rd_T79 xs i).f0, (rd_T79 xs i).f1, ys⟩)
  (k79_mkM _ _ _ ⟨(rd_T79 xs i).f0, (rd_T79 xs i).f1, ys⟩ (Kd.R_mono (Kd.R_lower (Kd.R_bound hy) hbB) (fun k hk => hk.2.1))) (fun k hk => .inr hk) (fun k hk => ⟨.inr hk, by omega⟩)
theorem rd79_set {xs : List S79} {i : Int} (h1 : i < (xs.length : Int)) (h0 : 0 ≤ i) (x : S79) : rd_T79 (xs.set i.toNat x) i = x := by
 unfold rd_T79
 rw [List.getD_eq_getElem?_getD, List.getElem?_set_self (by omega)]; rfl
theorem rd72_set {xs : List S72} {i : Int} (h1 : i < (xs.length : Int)) (h0 : 0 ≤ i) (x : S72) : rd_T72 (xs.set i.toNat x) i = x := by
 unfold rd_T72
 rw [List.getD_eq_getElem?_getD, List.getElem?_set_self (by omega)]; rfl
theorem pw_cell_below' {w W : World} {a : Addr} {v : Value} (h : Below w.heap.size w W) (hc : w.cell? a = some v) : W.cell? a = some v := pw_cell_below h hc

end Go.Proofs.Yteajnkondkfmgaa.PFnEach
