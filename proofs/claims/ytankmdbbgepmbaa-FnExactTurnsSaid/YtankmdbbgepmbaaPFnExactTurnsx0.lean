-- Made by a program of this session out of the translation. Lean checks it.
import Derived.Test.YtankmdbbgepmbaaProg
import Derived.Lib.Bytealg
import Derived.LoopN
import Derived.Below
import Derived.Deep.Draws
import Derived.Deep.AppendLies
import Derived.Maps.AppendAt
import Derived.OwnWalk
import Derived.Laws.BytesArg
import Derived.Laws.MakeOwn
import Derived.Laws.OwnMore
import Derived.Deep.OwnRows
import Derived.Tactics
import Derived.Lib.ConvBytes
import Derived.Laws.Slices
import Derived.WalkKit
import Derived.KernelRfl
import Derived.RowKit3
import Derived.Deep.LoopGhost
import Derived.Deep.QuietTactic
import Derived.BigQuiet
import Derived.WideLaws
import Derived.Deep.DeepCutAuto
import Derived.Deep.CutBlock
import Derived.Deep.RegionHeld3
import Derived.Laws.Rows
import Derived.Lib.AppendStr
import Derived.ArgAppend
import Derived.Laws.IdiomCopy
import Derived.OrdersHeld
import Derived.Laws.BitsLemmas
import Derived.RowKit
import Derived.Test.YtankmdbbgepmbaaSortLaid
import Derived.Test.YtankmdbbgepmbaaSortLoose
import Derived.Test.YtankmdbbgepmbaaSortAny
import Derived.Test.YtankmdbbgepmbaaVFnExactTurns
namespace Go.Proofs.Ytankmdbbgepmbaa.PFnExactTurns
open Go.RowKit Go.Proofs.YtankmdbbgepmbaaW.PrintWords Go.Proofs.YtankmdbbgepmbaaW.PrintLast Go.Proofs.YtankmdbbgepmbaaW.PrintMore
attribute [local go_sem] max2_int min2_int max_two min_two max_three min_three max_four min_four   -- for this text's walks alone
set_option linter.unusedVariables false
set_option linter.unusedSimpArgs false



def errW : Option Int → Value
 | none => .nilIface
 | some c => .iface 0 (.int .i64 c)
theorem errW_none : errW none = .nilIface := rfl
theorem errW_some (c : Int) : errW (some c) = .iface 0 (.int .i64 c) := rfl

theorem info3 : (Try.prog.info? 3).map (fun i => (i.zero, i.size, i.bytes)) = some (some (.int .i64 0), 1, 8) := by kernel_rfl
theorem info37 : (Try.prog.info? 37).map (fun i => (i.zero, i.size, i.bytes)) = some (some (.agg #[(.int .i64 0), (.int .i64 0), (.int .i64 0), (.bool false), (.int .i64 0)]), 5, 40) := by kernel_rfl
-- the values' own types
/-! #### struct type 40 -/
structure S40 where
 f0 : Int
 f1 : Int
 f2 : Int
 f3 : Bool
 f4 : Int
def z40 : S40 := ⟨(0 : Int), (0 : Int), (0 : Int), false, (0 : Int)⟩
def k40 : Kd S40 := Kd.iso (Kd.pair (Kd.int .i64) (Kd.pair (Kd.int .i64) (Kd.pair (Kd.int .i64) (Kd.pair Kd.bool (Kd.int .i64))))) (fun x : S40 => (x.f0, x.f1, x.f2, x.f3, x.f4))
theorem k40_open {w : World} {x : S40} {cs : List Value} (h : k40.K w x cs) : cs = [.int .i64 x.f0, .int .i64 x.f1, .int .i64 x.f2, .bool x.f3, .int .i64 x.f4] := by
 obtain ⟨_, _, rfl, rfl, ⟨_, _, rfl, rfl, ⟨_, _, rfl, rfl, ⟨_, _, rfl, rfl, rfl⟩⟩⟩⟩ := h
 exact rfl
theorem k40_openM {w : World} {base : Nat} {ok : Nat → Prop} {x : S40} {cs : List Value} (h : k40.M w base ok x cs) : cs = [.int .i64 x.f0, .int .i64 x.f1, .int .i64 x.f2, .bool x.f3, .int .i64 x.f4] := by
 obtain ⟨_, _, rfl, rfl, ⟨_, _, rfl, rfl, ⟨_, _, rfl, rfl, ⟨_, _, rfl, rfl, rfl⟩⟩⟩⟩ := h
 exact rfl
theorem k40_mk (w : World) (x : S40)  : k40.K w x [.int .i64 x.f0, .int .i64 x.f1, .int .i64 x.f2, .bool x.f3, .int .i64 x.f4] := ⟨[.int .i64 x.f0], [.int .i64 x.f1, .int .i64 x.f2, .bool x.f3, .int .i64 x.f4], rfl, rfl, ⟨[.int .i64 x.f1], [.int .i64 x.f2, .bool x.f3, .int .i64 x.f4], rfl, rfl, ⟨[.int .i64 x.f2], [.bool x.f3, .int .i64 x.f4], rfl, rfl, ⟨[.bool x.f3], [.int .i64 x.f4], rfl, rfl, rfl⟩⟩⟩⟩
theorem k40_mkM (w : World) (base : Nat) (ok : Nat → Prop) (x : S40)  : k40.M w base ok x [.int .i64 x.f0, .int .i64 x.f1, .int .i64 x.f2, .bool x.f3, .int .i64 x.f4] := ⟨[.int .i64 x.f0], [.int .i64 x.f1, .int .i64 x.f2, .bool x.f3, .int .i64 x.f4], rfl, rfl, ⟨[.int .i64 x.f1], [.int .i64 x.f2, .bool x.f3, .int .i64 x.f4], rfl, rfl, ⟨[.int .i64 x.f2], [.bool x.f3, .int .i64 x.f4], rfl, rfl, ⟨[.bool x.f3], [.int .i64 x.f4], rfl, rfl, rfl⟩⟩⟩⟩
def rd_T40 (xs : List S40) (i : Int) : S40 := xs.getD i.toNat z40
theorem at_T40 {w : World} {A : Option Addr} {n : Nat} {xs : List S40} (h : Kd.C k40 w A n xs) (i : Int) (h0 : 0 ≤ i) (h1 : i < n) : ∃ ad , A = some ad ∧ w.cell? (ad.add (i.toNat * 5)) = some (.int .i64 (rd_T40 xs i).f0) ∧ w.cell? ⟨(ad.add (i.toNat * 5)).block, (ad.add (i.toNat * 5)).off + 1, none⟩ = some (.int .i64 (rd_T40 xs i).f1) ∧ w.cell? ⟨(ad.add (i.toNat * 5)).block, (ad.add (i.toNat * 5)).off + 2, none⟩ = some (.int .i64 (rd_T40 xs i).f2) ∧ w.cell? ⟨(ad.add (i.toNat * 5)).block, (ad.add (i.toNat * 5)).off + 3, none⟩ = some (.bool (rd_T40 xs i).f3) ∧ w.cell? ⟨(ad.add (i.toNat * 5)).block, (ad.add (i.toNat * 5)).off + 4, none⟩ = some (.int .i64 (rd_T40 xs i).f4) := by
 obtain ⟨ad, c, e, _, hK, hc0⟩ := Kd.C_get h z40 i h0 h1
 have hc : ∀ j u, c[j]? = some u → w.cell? (ad.add (i.toNat * 5 + j)) = some u := hc0
 obtain rfl := k40_open hK
 exact ⟨ad, e, hc 0 _ rfl, by rw [← add_field _ _ 1 (by omega)]; exact hc 1 _ rfl, by rw [← add_field _ _ 2 (by omega)]; exact hc 2 _ rfl, by rw [← add_field _ _ 3 (by omega)]; exact hc 3 _ rfl, by rw [← add_field _ _ 4 (by omega)]; exact hc 4 _ rfl⟩

/-! #### struct type 37 -/
structure S37 where
 f0 : Int
 f1 : Int
 f2 : Int
 f3 : Bool
 f4 : Int
def z37 : S37 := ⟨(0 : Int), (0 : Int), (0 : Int), false, (0 : Int)⟩
def k37 : Kd S37 := Kd.iso (Kd.pair (Kd.int .i64) (Kd.pair (Kd.int .i64) (Kd.pair (Kd.int .i64) (Kd.pair Kd.bool (Kd.int .i64))))) (fun x : S37 => (x.f0, x.f1, x.f2, x.f3, x.f4))
theorem k37_open {w : World} {x : S37} {cs : List Value} (h : k37.K w x cs) : cs = [.int .i64 x.f0, .int .i64 x.f1, .int .i64 x.f2, .bool x.f3, .int .i64 x.f4] := by
 obtain ⟨_, _, rfl, rfl, ⟨_, _, rfl, rfl, ⟨_, _, rfl, rfl, ⟨_, _, rfl, rfl, rfl⟩⟩⟩⟩ := h
 exact rfl
theorem k37_openM {w : World} {base : Nat} {ok : Nat → Prop} {x : S37} {cs : List Value} (h : k37.M w base ok x cs) : cs = [.int .i64 x.f0, .int .i64 x.f1, .int .i64 x.f2, .bool x.f3, .int .i64 x.f4] := by
 obtain ⟨_, _, rfl, rfl, ⟨_, _, rfl, rfl, ⟨_, _, rfl, rfl, ⟨_, _, rfl, rfl, rfl⟩⟩⟩⟩ := h
 exact rfl
theorem k37_mk (w : World) (x : S37)  : k37.K w x [.int .i64 x.f0, .int .i64 x.f1, .int .i64 x.f2, .bool x.f3, .int .i64 x.f4] := ⟨[.int .i64 x.f0], [.int .i64 x.f1, .int .i64 x.f2, .bool x.f3, .int .i64 x.f4], rfl, rfl, ⟨[.int .i64 x.f1], [.int .i64 x.f2, .bool x.f3, .int .i64 x.f4], rfl, rfl, ⟨[.int .i64 x.f2], [.bool x.f3, .int .i64 x.f4], rfl, rfl, ⟨[.bool x.f3], [.int .i64 x.f4], rfl, rfl, rfl⟩⟩⟩⟩
theorem k37_mkM (w : World) (base : Nat) (ok : Nat → Prop) (x : S37)  : k37.M w base ok x [.int .i64 x.f0, .int .i64 x.f1, .int .i64 x.f2, .bool x.f3, .int .i64 x.f4] := ⟨[.int .i64 x.f0], [.int .i64 x.f1, .int .i64 x.f2, .bool x.f3, .int .i64 x.f4], rfl, rfl, ⟨[.int .i64 x.f1], [.int .i64 x.f2, .bool x.f3, .int .i64 x.f4], rfl, rfl, ⟨[.int .i64 x.f2], [.bool x.f3, .int .i64 x.f4], rfl, rfl, ⟨[.bool x.f3], [.int .i64 x.f4], rfl, rfl, rfl⟩⟩⟩⟩
def rd_T37 (xs : List S37) (i : Int) : S37 := xs.getD i.toNat z37
theorem at_T37 {w : World} {A : Option Addr} {n : Nat} {xs : List S37} (h : Kd.C k37 w A n xs) (i : Int) (h0 : 0 ≤ i) (h1 : i < n) : ∃ ad , A = some ad ∧ w.cell? (ad.add (i.toNat * 5)) = some (.int .i64 (rd_T37 xs i).f0) ∧ w.cell? ⟨(ad.add (i.toNat * 5)).block, (ad.add (i.toNat * 5)).off + 1, none⟩ = some (.int .i64 (rd_T37 xs i).f1) ∧ w.cell? ⟨(ad.add (i.toNat * 5)).block, (ad.add (i.toNat * 5)).off + 2, none⟩ = some (.int .i64 (rd_T37 xs i).f2) ∧ w.cell? ⟨(ad.add (i.toNat * 5)).block, (ad.add (i.toNat * 5)).off + 3, none⟩ = some (.bool (rd_T37 xs i).f3) ∧ w.cell? ⟨(ad.add (i.toNat * 5)).block, (ad.add (i.toNat * 5)).off + 4, none⟩ = some (.int .i64 (rd_T37 xs i).f4) := by
 obtain ⟨ad, c, e, _, hK, hc0⟩ := Kd.C_get h z37 i h0 h1
 have hc : ∀ j u, c[j]? = some u → w.cell? (ad.add (i.toNat * 5 + j)) = some u := hc0
 obtain rfl := k37_open hK
 exact ⟨ad, e, hc 0 _ rfl, by rw [← add_field _ _ 1 (by omega)]; exact hc 1 _ rfl, by rw [← add_field _ _ 2 (by omega)]; exact hc 2 _ rfl, by rw [← add_field _ _ 3 (by omega)]; exact hc 3 _ rfl, by rw [← add_field _ _ 4 (by omega)]; exact hc 4 _ rfl⟩

def rd_L4 (xs : List (List S37)) (i : Int) : (List S37) := xs.getD i.toNat ([] : List S37)
theorem at_L4 {w : World} {A : Option Addr} {n : Nat} {xs : List (List S37)} (h : Kd.C (Kd.slice 37 k37) w A n xs) (i : Int) (h0 : 0 ≤ i) (h1 : i < n) : ∃ ad A0 c0, A = some ad ∧ w.cell? (ad.add i.toNat) = some (.slice A0 (rd_L4 xs i).length c0) ∧ (rd_L4 xs i).length ≤ c0 ∧ k37.C w A0 (rd_L4 xs i).length (rd_L4 xs i) := by
 obtain ⟨ad, c, e, _, hK, hc0⟩ := Kd.C_get h ([] : List S37) i h0 h1
 have hc : ∀ j u, c[j]? = some u → w.cell? (ad.add (i.toNat * 1 + j)) = some u := hc0
 obtain ⟨A0, c0, rfl, l0, g0⟩ := hK
 exact ⟨ad, A0, c0, e, by have hq := hc 0 _ rfl; rwa [Nat.mul_one, Nat.add_zero] at hq, l0, g0⟩

/-! #### the sort of a row of whole numbers -/
noncomputable def siT : TypeInfo := (Try.prog.info? 24).get (by kernel_rfl)
noncomputable def siE : TypeInfo := (Try.prog.info? 3).get (by kernel_rfl)
theorem siK (n : Nat) (h2 : 2 ≤ n) : Lib.swapperK n siE 2 = 5 := by
 have a : siE.hasPointers = false := by kernel_rfl
 have b : siE.bytes = 8 := by kernel_rfl
 have c : (n == 0) = false := by simp; omega
 have d : (n == 1) = false := by simp; omega
 simp [Lib.swapperK, a, b, c, d]
theorem siK1 (n : Nat) (h1 : n ≤ 1) : Lib.swapperK n siE 2 = n + 1 := by
 have h : n = 0 ∨ n = 1 := by omega
 rcases h with rfl | rfl <;> simp [Lib.swapperK]
theorem size_insInner (lt : Int → Int → Bool) (a : Nat) : ∀ (j : Nat) (d : Array Int), (Sort.insInner lt a j d).size = d.size
 | 0, d => rfl
 | j + 1, d => by
  unfold Sort.insInner
  split
  {
  rw [size_insInner lt a j]; simp [Sort.swp]
  }
  {
  rfl
  }
theorem size_insOuter (lt : Int → Int → Bool) (a b : Nat) : ∀ (m i : Nat) (d : Array Int), b - i = m → (Sort.insOuter lt a b i d).size = d.size
 | 0, i, d, h => by unfold Sort.insOuter; rw [if_neg (by omega)]
 | m + 1, i, d, h => by
  unfold Sort.insOuter
  split
  {
  rw [size_insOuter lt a b m (i + 1) _ (by omega), size_insInner]
  }
  {
  rfl
  }
def sortL (lt : Int → Int → Bool) (xs : List Int) : List Int := (Sort.insertionSort lt xs.toArray 0 xs.length).toList
theorem sortL_length (lt : Int → Int → Bool) (xs : List Int) : (sortL lt xs).length = xs.length := by
 unfold sortL Sort.insertionSort
 rw [Array.length_toList, size_insOuter lt 0 xs.length _ _ _ rfl]; simp
theorem sortL_tiny (lt : Int → Int → Bool) (xs : List Int) (h : xs.length ≤ 1) : sortL lt xs = xs := by
 unfold sortL Sort.insertionSort Sort.insOuter
 rw [if_neg (by omega)]
theorem R_of_holds {w W : World} {base g n c : Nat} {ok : Nat → Prop} {xs ys : List Int} (h : Kd.R (Kd.int .i64) 3 w base ok (.slice (some ⟨g, 0, none⟩) n c) xs) (hl : ys.length = xs.length) (hs : SortLoose.Shape g w W)
  (hh : ∀ j, j < ys.length → W.cell? ⟨g, j, none⟩ = some (.int .i64 (ys.getD j 0))) : Kd.R (Kd.int .i64) 3 W base ok (.slice (some ⟨g, 0, none⟩) n c) ys := by
 have hn := (Kd.R_reads' h).1
 subst hn
 refine ⟨h.1, encs (Value.int .i64) ys, ?_, Kd.reps_scalar ys⟩
 have ho := Kd.own_of_R (enc := Value.int .i64) (h1 := fun _ => rfl) h
 obtain ⟨hlen, hx⟩ := ho
 rw [hl]
 refine ⟨by simp [encs, hl, Kd.int, Kd.scalar], ?_⟩
 rcases hx with ⟨e, hn⟩ | ⟨g', cap, cur, e, hg, hc, h1, h2, h3, h4⟩
 {
 cases e
 }
 {
 cases e
 obtain ⟨cur', hc', hsz⟩ := hs cur 3 (0, 0) hc
 refine .inr ⟨g, c, cur', rfl, hg, hc', h1, h2, by rw [hsz]; exact h3, ?_⟩
 show cur'.toList.take (xs.length * 1) = _
 rw [Nat.mul_one] at h3 ⊢
 apply List.ext_getElem?
 intro j
 rcases Nat.lt_or_ge j xs.length with hj | hj
 {
 have := hh j (by omega)
 rw [blk_cell hc' j] at this
 rw [List.getElem?_take_of_lt hj, Array.getElem?_toList, this]
 simp [encs, List.getD_eq_getElem?_getD, List.getElem?_eq_getElem (show j < ys.length by omega)]
 }
 {
 rw [List.getElem?_eq_none (by rw [List.length_take]; omega), List.getElem?_eq_none (by simp [encs]; omega)]
 }
 }
theorem holds_of_R {w : World} {base g n c : Nat} {ok : Nat → Prop} {xs : List Int} (h : Kd.R (Kd.int .i64) 3 w base ok (.slice (some ⟨g, 0, none⟩) n c) xs) : Sort.Holds (Value.int .i64) w g 0 xs.toArray := by
 have hn := (Kd.R_reads' h).1
 subst hn
 intro j hj
 have hj' : j < xs.length := by simpa using hj
 obtain ⟨cs, hcl, hM, hcc, hfr⟩ := Kd.R_elem h 0 (j : Int) (by omega) (by omega)
 obtain rfl := hM
 have h0 := hcc 0 _ rfl
 have h1 := hfr 0
 rw [show (Kd.int .i64).sz = 1 from rfl, Nat.mul_one, Nat.add_zero, Int.toNat_natCast] at h0 h1
 refine ⟨?_, by rw [Nat.zero_add]; exact h1⟩
 rw [Nat.zero_add, h0]
 simp [List.getD_eq_getElem?_getD, hj']
theorem all_of {p : Int → Prop} {xs : List Int} (hal : ∀ x, x ∈ xs → p x) : ∀ k, k < xs.toArray.size → p xs.toArray[k]! := fun k hk => by
 have hk' : k < xs.length := by simpa using hk
 have := hal _ (List.getElem_mem hk')
 rw [getElem!_def]
 simpa [hk'] using this
set_option maxHeartbeats 2000000 in
theorem sort_few (p : Int → Prop) (lt : Int → Int → Bool) (g : Nat) (lb : Array Value) (eg : ∀ args w, (callFunc g args).run Try.prog w = .ok (.enter g args) w) (A : Option Addr) (n c : Nat) (xs : List Int) (base : Nat) (ok : Nat → Prop) (h20 : xs.length ≤ 20) (w : World)
  (hR : Kd.R (Kd.int .i64) 3 w base ok (.slice A n c) xs) (hal : ∀ x, x ∈ xs → p x) (hless : ∀ blk, A = some ⟨blk, 0, none⟩ → SortLoose.LessL Try.prog g lb (Value.int .i64) p lt blk 0 xs.length w) :
  Calls Try.prog 54 #[.iface 24 (.slice A n c), .func (.func g) #[] lb] w fun e w' => e = .returned (.tuple #[]) ∧ Kd.R (Kd.int .i64) 3 w' base ok (.slice A n c) (sortL lt xs) ∧ w.grownBy w' (Value.slice A n c).ownBlock := by
 have hn := (Kd.R_reads' hR).1
 subst hn
 rcases Nat.lt_or_ge 1 xs.length with h2 | h1
 {
 obtain ⟨blk, cap, e, hgb, hgl, _⟩ := Kd.R_form hR (by omega)
 cases e
 have hS := SortLoose.slice_loose Try.sl8 24 3 siT siE (by kernel_rfl) (by kernel_rfl) (by kernel_rfl) (by kernel_rfl) 2 (fun _ => by kernel_rfl) (by kernel_rfl) (fun _ => by kernel_rfl) (Value.int .i64) p (fun _ => rfl) lt g lb
  eg blk 0 c xs.toArray (by simp; omega) (by simpa using h20) 116 (by rw [siK _ (by simp; omega)]; kernel_rfl) true
  (fun args W => run_callFunc_extern Try.func116 (by kernel_rfl) (by kernel_rfl) (by kernel_rfl) (e := Extern.ReflectliteSwapper.swap true) (by kernel_rfl) args W) w (by simpa using hless blk rfl) (holds_of_R hR) (all_of hal) hgl
 change Calls Try.prog 54 _ _ _ at hS
 simp only [List.size_toArray] at hS
 refine hS.mono ?_
 rintro e w' ⟨rfl, hl⟩
 refine ⟨rfl, R_of_holds hR (sortL_length lt xs) hl.sh (fun j hj => ?_), hl.gr⟩
 have hz : (Sort.insertionSort lt xs.toArray 0 xs.length).size = xs.length := by have := sortL_length lt xs; unfold sortL at this; simpa using this
 have := (hl.ho j (by rw [hz]; rw [sortL_length] at hj; exact hj)).1
 rw [Nat.zero_add] at this
 rw [this]
 unfold sortL
 rw [List.getD_eq_getElem?_getD, Array.getElem?_toList, getElem!_def]
 have hj2 : j < (Sort.insertionSort lt xs.toArray 0 xs.length).size := by rw [hz]; rw [sortL_length] at hj; exact hj
 simp [hj2]
 }
 {
 have hf : ∃ f, Try.prog.funcs.findIdx? (·.name == "internal/reflectlite" ++ ".Swapper$" ++ toString (Lib.swapperK xs.length siE 2)) = some f := by
  rw [siK1 _ (by omega)]
  have h : xs.length = 0 ∨ xs.length = 1 := by omega
  have hs : ∀ o : Option Nat, o.isSome = true → ∃ f, o = some f := fun o h => ⟨o.get h, by simp⟩
  rcases h with h | h <;> rw [h] <;> exact hs _ (by kernel_rfl)
 obtain ⟨f, hf⟩ := hf
 have hS := Any.sort_SliceStable_tiny Try.sl8 24 3 siT siE (by kernel_rfl) (by kernel_rfl) (by kernel_rfl) (by kernel_rfl) 2 (fun _ => by kernel_rfl) A xs.length c (by omega) f hf (.func g) #[] lb w
 change Calls Try.prog 54 _ _ _ at hS
 refine hS.mono ?_
 rintro e w' ⟨rfl, os, rfl⟩
 rw [sortL_tiny _ _ (by omega)]
 have hb : Below w.heap.size w (Sort.grow w os) := ⟨rfl, rfl, rfl, by simp [Sort.grow], fun i hi => by simp [Sort.grow, Array.getElem?_append_left hi]⟩
 exact ⟨rfl, Kd.R_below hR hb, SortLoose.below_grown hb⟩
 }
set_option maxHeartbeats 2000000 in
theorem sort_any (p : Int → Prop) (lt : Int → Int → Bool) (R : Int → Int → Prop) (o : SortLoose.Ord R) (g : Nat) (lb : Array Value) (eg : ∀ args w, (callFunc g args).run Try.prog w = .ok (.enter g args) w) (A : Option Addr) (n c : Nat) (xs : List Int) (base : Nat) (ok : Nat → Prop) (h20 : xs.length ≤ 1048576) (F : SortLoose.Fair R lt xs.toArray 0 xs.length) (w : World)
  (hR : Kd.R (Kd.int .i64) 3 w base ok (.slice A n c) xs) (hal : ∀ x, x ∈ xs → p x) (hless : ∀ blk, A = some ⟨blk, 0, none⟩ → SortLoose.LessL Try.prog g lb (Value.int .i64) p lt blk 0 xs.length w) :
  Calls Try.prog 54 #[.iface 24 (.slice A n c), .func (.func g) #[] lb] w fun e w' => e = .returned (.tuple #[]) ∧ Kd.R (Kd.int .i64) 3 w' base ok (.slice A n c) (sortL lt xs) ∧ w.grownBy w' (Value.slice A n c).ownBlock := by
 have hn := (Kd.R_reads' hR).1
 subst hn
 rcases Nat.lt_or_ge 1 xs.length with h2 | h1
 {
 obtain ⟨blk, cap, e, hgb, hgl, _⟩ := Kd.R_form hR (by omega)
 cases e
 have hS := SortLoose.slice_ins Try.sl8 24 3 siT siE (by kernel_rfl) (by kernel_rfl) (by kernel_rfl) (by kernel_rfl) 2 (fun _ => by kernel_rfl) (by kernel_rfl) (fun _ => by kernel_rfl) (Value.int .i64) p (fun _ => rfl) lt R o g lb
  eg blk 0 c xs.toArray (by simp; omega) (by simp; omega) 116 (by rw [siK _ (by simp; omega)]; kernel_rfl) true
  (fun args W => run_callFunc_extern Try.func116 (by kernel_rfl) (by kernel_rfl) (by kernel_rfl) (e := Extern.ReflectliteSwapper.swap true) (by kernel_rfl) args W) w (by simpa using hless blk rfl) (holds_of_R hR) (all_of hal) hgl (by simpa using F)
 change Calls Try.prog 54 _ _ _ at hS
 simp only [List.size_toArray] at hS
 refine hS.mono ?_
 rintro e w' ⟨rfl, hl⟩
 refine ⟨rfl, R_of_holds hR (sortL_length lt xs) hl.sh (fun j hj => ?_), hl.gr⟩
 have hz : (Sort.insertionSort lt xs.toArray 0 xs.length).size = xs.length := by have := sortL_length lt xs; unfold sortL at this; simpa using this
 have := (hl.ho j (by rw [hz]; rw [sortL_length] at hj; exact hj)).1
 rw [Nat.zero_add] at this
 rw [this]
 unfold sortL
 rw [List.getD_eq_getElem?_getD, Array.getElem?_toList, getElem!_def]
 have hj2 : j < (Sort.insertionSort lt xs.toArray 0 xs.length).size := by rw [hz]; rw [sortL_length] at hj; exact hj
 simp [hj2]
 }
 {
 have hf : ∃ f, Try.prog.funcs.findIdx? (·.name == "internal/reflectlite" ++ ".Swapper$" ++ toString (Lib.swapperK xs.length siE 2)) = some f := by
  rw [siK1 _ (by omega)]
  have h : xs.length = 0 ∨ xs.length = 1 := by omega
  have hs : ∀ o : Option Nat, o.isSome = true → ∃ f, o = some f := fun o h => ⟨o.get h, by simp⟩
  rcases h with h | h <;> rw [h] <;> exact hs _ (by kernel_rfl)
 obtain ⟨f, hf⟩ := hf
 have hS := Any.sort_SliceStable_tiny Try.sl8 24 3 siT siE (by kernel_rfl) (by kernel_rfl) (by kernel_rfl) (by kernel_rfl) 2 (fun _ => by kernel_rfl) A xs.length c (by omega) f hf (.func g) #[] lb w
 change Calls Try.prog 54 _ _ _ at hS
 refine hS.mono ?_
 rintro e w' ⟨rfl, os, rfl⟩
 rw [sortL_tiny _ _ (by omega)]
 have hb : Below w.heap.size w (Sort.grow w os) := ⟨rfl, rfl, rfl, by simp [Sort.grow], fun i hi => by simp [Sort.grow, Array.getElem?_append_left hi]⟩
 exact ⟨rfl, Kd.R_below hR hb, SortLoose.below_grown hb⟩
 }
theorem blk_put5 {w : World} {g : Nat} {t : TypeId} {a0 a1 a2 a3 a4 : Value} (h : w.heap[g]? = some (.cells #[a0, a1, a2, a3, a4] t (0, 0))) (u0 u1 u2 u3 u4 : Value) :
  (((((w.setCell ⟨g, 0, none⟩ u0).setCell ⟨g, 1, none⟩ u1).setCell ⟨g, 2, none⟩ u2).setCell ⟨g, 3, none⟩ u3).setCell ⟨g, 4, none⟩ u4).heap[g]? = some (.cells #[u0, u1, u2, u3, u4] t (0, 0)) :=
 blk_put (blk_put (blk_put (blk_put (blk_put h 0 u0 rfl) 1 u1 rfl) 2 u2 rfl) 3 u3 rfl) 4 u4 rfl
theorem blk_far5 {w : World} {g g' : Nat} {t : TypeId} {cs : Array Value} (h : w.heap[g]? = some (.cells cs t (0, 0))) (hne : g ≠ g') (u0 u1 u2 u3 u4 : Value) :
  (((((w.setCell ⟨g', 0, none⟩ u0).setCell ⟨g', 1, none⟩ u1).setCell ⟨g', 2, none⟩ u2).setCell ⟨g', 3, none⟩ u3).setCell ⟨g', 4, none⟩ u4).heap[g]? = some (.cells cs t (0, 0)) :=
 blk_far (p := ⟨g', 4, none⟩) (blk_far (p := ⟨g', 3, none⟩) (blk_far (p := ⟨g', 2, none⟩) (blk_far (p := ⟨g', 1, none⟩) (blk_far (p := ⟨g', 0, none⟩) h hne u0) hne u1) hne u2) hne u3) hne u4
theorem below_put5 {n : Nat} {w W : World} (h : Below n w W) {g : Nat} (hg : n ≤ g) (u0 u1 u2 u3 u4 : Value) :
  Below n w (((((W.setCell ⟨g, 0, none⟩ u0).setCell ⟨g, 1, none⟩ u1).setCell ⟨g, 2, none⟩ u2).setCell ⟨g, 3, none⟩ u3).setCell ⟨g, 4, none⟩ u4) :=
 ((((h.setCell (p := ⟨g, 0, none⟩) hg u0).setCell (p := ⟨g, 1, none⟩) hg u1).setCell (p := ⟨g, 2, none⟩) hg u2).setCell (p := ⟨g, 3, none⟩) hg u3).setCell (p := ⟨g, 4, none⟩) hg u4
section
variable {w : World} {g : Nat} {t : TypeId} {a0 a1 a2 a3 a4 : Value}
theorem c5_0 (h : w.heap[g]? = some (.cells #[a0, a1, a2, a3, a4] t (0, 0))) : w.cell? ⟨g, 0, none⟩ = some a0 := (blk_cell h 0).trans rfl
theorem c5_1 (h : w.heap[g]? = some (.cells #[a0, a1, a2, a3, a4] t (0, 0))) : w.cell? ⟨g, 1, none⟩ = some a1 := (blk_cell h 1).trans rfl
theorem c5_2 (h : w.heap[g]? = some (.cells #[a0, a1, a2, a3, a4] t (0, 0))) : w.cell? ⟨g, 2, none⟩ = some a2 := (blk_cell h 2).trans rfl
theorem c5_3 (h : w.heap[g]? = some (.cells #[a0, a1, a2, a3, a4] t (0, 0))) : w.cell? ⟨g, 3, none⟩ = some a3 := (blk_cell h 3).trans rfl
theorem c5_4 (h : w.heap[g]? = some (.cells #[a0, a1, a2, a3, a4] t (0, 0))) : w.cell? ⟨g, 4, none⟩ = some a4 := (blk_cell h 4).trans rfl
end
theorem c3_0 {w : World} {g : Nat} {t : TypeId} {a0 a1 a2 : Value} (h : w.heap[g]? = some (.cells #[a0, a1, a2] t (0, 0))) : w.cell? ⟨g, 0, none⟩ = some a0 := (blk_cell h 0).trans rfl
theorem c3_1 {w : World} {g : Nat} {t : TypeId} {a0 a1 a2 : Value} (h : w.heap[g]? = some (.cells #[a0, a1, a2] t (0, 0))) : w.cell? ⟨g, 1, none⟩ = some a1 := (blk_cell h 1).trans rfl
theorem c3_2 {w : World} {g : Nat} {t : TypeId} {a0 a1 a2 : Value} (h : w.heap[g]? = some (.cells #[a0, a1, a2] t (0, 0))) : w.cell? ⟨g, 2, none⟩ = some a2 := (blk_cell h 2).trans rfl
theorem c1_0 {w : World} {g : Nat} {t : TypeId} {a0 : Value} (h : w.heap[g]? = some (.cells #[a0] t (0, 0))) : w.cell? ⟨g, 0, none⟩ = some a0 := (blk_cell h 0).trans rfl
theorem keep_new {w W : World} {g b : Nat} (h : KeepBut w W g none) (hb : w.heap.size ≤ b) (k : Nat) (u : Value) : KeepBut w (W.setCell ⟨b, k, none⟩ u) g none :=
 ⟨by have := h.1; simpa [World.setCell] using this, fun i hi hne hr => (Below.heap_setCell W ⟨b, k, none⟩ u i (by show i ≠ b; omega)).trans (h.2 i hi hne hr)⟩
theorem keep_new5 {w W : World} {g b : Nat} (h : KeepBut w W g none) (hb : w.heap.size ≤ b) (u0 u1 u2 u3 u4 : Value) : KeepBut w (((((W.setCell ⟨b, 0, none⟩ u0).setCell ⟨b, 1, none⟩ u1).setCell ⟨b, 2, none⟩ u2).setCell ⟨b, 3, none⟩ u3).setCell ⟨b, 4, none⟩ u4) g none :=
 keep_new (keep_new (keep_new (keep_new (keep_new h hb 0 u0) hb 1 u1) hb 2 u2) hb 3 u3) hb 4 u4
theorem R_far5 {α : Type} {d : Kd α} {e base : Nat} {w : World} {ok : Nat → Prop} {v : Value} {xs : List α} (h : Kd.R d e w base ok v xs) {b : Nat} (hok : ∀ k, ok k → k ≠ b) (u0 u1 u2 u3 u4 : Value) :
  Kd.R d e (((((w.setCell ⟨b, 0, none⟩ u0).setCell ⟨b, 1, none⟩ u1).setCell ⟨b, 2, none⟩ u2).setCell ⟨b, 3, none⟩ u3).setCell ⟨b, 4, none⟩ u4) base ok v xs :=
 Kd.R_far (p := ⟨b, 4, none⟩) (Kd.R_far (p := ⟨b, 3, none⟩) (Kd.R_far (p := ⟨b, 2, none⟩) (Kd.R_far (p := ⟨b, 1, none⟩) (Kd.R_far (p := ⟨b, 0, none⟩) h hok u0) hok u1) hok u2) hok u3) hok u4
/-- A row that an append has written stands above what it stood above. -/
theorem R_raise {e base B : Nat} {W W1 : World} {ok ok' : Nat → Prop} {v v1 : Value} {xs ys : List Int} (h : Kd.R (Kd.int .i64) e W B ok v xs) (hg : W.grownBy W1 v.ownBlock) (hat : v1.ownBlock = v.ownBlock ∨ ∃ b, v1.ownBlock = some b ∧ W.heap.size ≤ b) (hB : B ≤ W.heap.size) (h1 : Kd.R (Kd.int .i64) e W1 base ok' v1 ys) : Kd.R (Kd.int .i64) e W1 B ok' v1 ys := by
 have hb : ∀ k, v1.ownBlock = some k → B ≤ k := by
  intro k hk
  rcases hat with e | ⟨b, e, hb⟩
  {
  exact Kd.R_base h k (e ▸ hk)
  }
  {
  rw [e] at hk
  injection hk with hk
  omega
  }
 obtain ⟨h0, inner, ho, hr⟩ := h1
 refine ⟨h0, inner, ?_, hr⟩
 obtain ⟨hl, hx⟩ := ho
 refine ⟨hl, ?_⟩
 rcases hx with hx | ⟨g, cap, cur, ev, hg2, hc, r⟩
 {
 exact .inl hx
 }
 {
 exact .inr ⟨g, cap, cur, ev, hb g (by rw [ev]; rfl), hc, r⟩
 }
theorem C_keepI {w W : World} {g n : Nat} {A : Option Addr} {xs : List Int} (h : Kd.C (Kd.int .i64) w A n xs) (hk : KeepBut w W g none) (hf : ∀ ad, A = some ad → 0 < n → ad.block ≠ g) : Kd.C (Kd.int .i64) W A n xs := Kd.C_keep (0 : Int) h hk hf

end Go.Proofs.Ytankmdbbgepmbaa.PFnExactTurns
