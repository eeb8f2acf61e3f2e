/- What an argument's data read as: a value of the print's own kinds, with its bounds; for every type of numbers, bools, strings, slices and structs. -/
import Derived.Test.YtankmdbbgepmbaaVFnExactTurns
import Derived.ChangeArms
import Derived.Deep.Slices
import Derived.OpenShut
namespace Go.Proofs.Ytankmdbbgepmbaa.Open
open Go.RowKit Go.Proofs.YtankmdbbgepmbaaW.PrintWords Go.Deep

/-- What reads as data of the type t reads as a value of the kind d, and the value is as F says. -/
def Opens (P : Program) (t : TypeId) {α : Type} (d : Kd α) (F : α → Prop) : Prop :=
  ∀ (H : Type) (enc : TypeId × Value → H) (W : World) (n : Nat) (cs : List Value) (x : DataW H × List MemPlace),
    DataW.trod enc P W 0 (fun _ => true) true n t cs = some x → ∃ a : α, d.K W a cs ∧ F a

variable {P : Program}

theorem opens_int {t : TypeId} {k : IntKind} (ht : P.underlying t = some (.int k)) : Opens P t (Kd.int k) (fun a => (Lit.int k a).wf = true) := by
  intro H enc W n cs x h
  obtain ⟨a, hc, _, hw⟩ := DataW.trod_int ht h
  exact ⟨a, hc, hw⟩
/-- A whole number of 64 bits. -/
def I64 (a : Int) : Prop := -9223372036854775808 ≤ a ∧ a ≤ 9223372036854775807
theorem opens_i64 {t : TypeId} (ht : P.underlying t = some (.int .i64)) : Opens P t (Kd.int .i64) I64 := by
  intro H enc W n cs x h
  obtain ⟨a, hc, _, hw⟩ := DataW.trod_int ht h
  exact ⟨a, hc, bounds_i64 hw⟩
theorem opens_u8 {t : TypeId} (ht : P.underlying t = some (.int .u8)) : Opens P t (Kd.int .u8) (fun a => 0 ≤ a ∧ a ≤ 255) := by
  intro H enc W n cs x h
  obtain ⟨a, hc, _, hw⟩ := DataW.trod_int ht h
  exact ⟨a, hc, bounds_u8 hw⟩
theorem opens_bool {t : TypeId} (ht : P.underlying t = some .bool) : Opens P t Kd.bool (fun _ => True) := by
  intro H enc W n cs x h
  obtain ⟨a, hc, _⟩ := DataW.trod_bool ht h
  exact ⟨a, hc, trivial⟩
theorem opens_string {t : TypeId} (ht : P.underlying t = some .string) : Opens P t Kd.string (fun a => a.size ≤ maxLen) := by
  intro H enc W n cs x h
  obtain ⟨a, hc, _, hw⟩ := DataW.trod_string ht h
  exact ⟨a, hc, hw⟩

theorem cells_of {w : World} {a : Addr} {n : Nat} {cs : List Value} (h : w.cells? 0 a n = some cs) : cs.length = n ∧ ∀ i u, cs[i]? = some u → w.cell? (a.add i) = some u := by
  unfold World.cells? at h
  rw [if_pos (Nat.zero_le _)] at h
  have h1 : ∀ (l : List Nat) (r : List Value), l.mapM (fun i => w.cell? (a.add i)) = some r → r.length = l.length ∧ ∀ (i : Nat) (u : Value) (j : Nat), r[i]? = some u → l[i]? = some j → w.cell? (a.add j) = some u := by
    intro l
    induction l with
    | nil =>
      intro r hr
      simp at hr
      subst hr
      simp
    | cons x l ih =>
      intro r hr
      rw [List.mapM_cons] at hr
      simp only [Option.bind_eq_bind, Option.bind_eq_some_iff, Option.pure_def, Option.some.injEq] at hr
      obtain ⟨y, hy, ys, hys, rfl⟩ := hr
      obtain ⟨e1, e2⟩ := ih ys hys
      refine ⟨by simp [e1], fun i u j h1 h2 => ?_⟩
      cases i with
      | zero =>
        simp at h1 h2
        rw [← h1, ← h2]
        exact hy
      | succ i => exact e2 i u j (by simpa using h1) (by simpa using h2)
  obtain ⟨e1, e2⟩ := h1 _ _ h
  rw [List.length_range] at e1
  refine ⟨e1, fun i u hi => e2 i u i hi ?_⟩
  have : i < cs.length := (List.getElem?_eq_some_iff.1 hi).1
  rw [List.getElem?_range (by omega)]

theorem opens_slice {t e : TypeId} {α : Type} {d : Kd α} {F : α → Prop} (ht : P.underlying t = some (.slice e)) (hs : P.cellsOf e = d.sz) (he : Opens P e d F) :
    Opens P t (Kd.slice e d) (fun l => l.length ≤ 9223372036854775807 ∧ ∀ x ∈ l, F x) := by
  intro H enc W n cs x h
  rcases open_slice ht h with ⟨hc, _⟩ | ⟨a, len, cap, m, k, D, Pl, hc, _, hl, hm, hmm, _, hx⟩
  · refine ⟨[], ⟨none, 0, hc, Nat.le_refl _, rfl, by simp, fun h => absurd h (by simp)⟩, by simp, by simp⟩
  · simp only [if_true] at hmm
    subst hmm
    have each : ∀ i : Fin len, ∃ a0 : α, ∃ c, c.length = d.sz ∧ d.K W a0 c ∧ F a0 ∧ ∀ j u, c[j]? = some u → W.cell? (a.add (i.val * d.sz + j)) = some u := by
      intro i
      obtain ⟨cs', h1, h2⟩ := hx i.val (by omega)
      obtain ⟨a0, hK, hF⟩ := he _ _ _ _ _ _ h2
      obtain ⟨hl1, hc1⟩ := cells_of h1
      rw [hs] at hc1 hl1
      refine ⟨a0, cs', hl1, hK, hF, fun j u hj => ?_⟩
      have := hc1 j u hj
      rw [Go.Proofs.YtankmdbbgepmbaaW.PrintWords.add_add] at this
      exact this
    have hc2 := fun i => Classical.choose_spec (each i)
    refine ⟨List.ofFn (fun i => Classical.choose (each i)), ⟨some a, m, by rw [List.length_ofFn]; exact hc, by rw [List.length_ofFn]; exact hl, ?_⟩, by rw [List.length_ofFn]; unfold maxLen at hm; omega, ?_⟩
    · refine ⟨rfl, by rw [List.length_ofFn]; unfold maxLen at hm; omega, fun _ => ⟨a, rfl, fun j p hj => ?_⟩⟩
      rw [List.getElem?_ofFn] at hj
      split at hj
      · rename_i hlt
        obtain rfl := Option.some.inj hj
        obtain ⟨c, h1, h2, h3, h4⟩ := hc2 ⟨j, hlt⟩
        exact ⟨c, h1, h2, h4⟩
      · cases hj
    · intro x hx
      obtain ⟨i, rfl⟩ := List.mem_ofFn.1 hx
      obtain ⟨c, h1, h2, h3, h4⟩ := hc2 i
      exact h3

/-- The fields from the place 'off' on. -/
def OpensF (P : Program) (fs : List Field) (off : Nat) {α : Type} (d : Kd α) (F : α → Prop) : Prop :=
  ∀ (H : Type) (enc : TypeId × Value → H) (W : World) (n : Nat) (cs : List Value),
    (∀ f ∈ fs, ∃ x, DataW.trod enc P W 0 (fun _ => true) true n f.type ((cs.drop f.offset).take (P.cellsOf f.type)) = some x) → cs.length = off + d.sz → ∃ a : α, d.K W a (cs.drop off) ∧ F a

theorem opensF_one {f : Field} {off : Nat} {α : Type} {d : Kd α} {F : α → Prop} (ho : f.offset = off) (hs : P.cellsOf f.type = d.sz) (h : Opens P f.type d F) : OpensF P [f] off d F := by
  intro H enc W n cs hf hl
  obtain ⟨x, hx⟩ := hf f (by simp)
  obtain ⟨a, hK, hF⟩ := h _ _ _ _ _ _ hx
  rw [ho, hs, List.take_of_length_le (by rw [List.length_drop]; omega)] at hK
  exact ⟨a, hK, hF⟩
theorem opensF_cons {f : Field} {fs : List Field} {off off' : Nat} {α β : Type} {d : Kd α} {F : α → Prop} {d' : Kd β} {F' : β → Prop} (ho : f.offset = off) (hs : P.cellsOf f.type = d.sz) (hoff : off' = off + d.sz) (h : Opens P f.type d F)
    (h' : OpensF P fs off' d' F') : OpensF P (f :: fs) off (Kd.pair d d') (fun x => F x.1 ∧ F' x.2) := by
  intro H enc W n cs hf hl
  subst hoff
  obtain ⟨x, hx⟩ := hf f (by simp)
  obtain ⟨a, hK, hF⟩ := h _ _ _ _ _ _ hx
  obtain ⟨b, hK', hF'⟩ := h' H enc W n cs (fun g hg => hf g (by simp [hg])) (by rw [hl]; show off + (d.sz + d'.sz) = _; omega)
  rw [ho, hs] at hK
  refine ⟨(a, b), ⟨_, _, ?_, hK, hK'⟩, hF, hF'⟩
  rw [← List.drop_drop, List.take_append_drop]

theorem opens_struct {t : TypeId} {fs : Array Field} {α β : Type} {d : Kd α} {F : α → Prop} (g : β → α) (g' : α → β) (hg : ∀ a, g (g' a) = a) (ht : P.underlying t = some (.struct fs)) (hs : P.cellsOf t = d.sz) (h : OpensF P fs.toList 0 d F) :
    Opens P t (Kd.iso d g) (fun b => F (g b)) := by
  intro H enc W n cs x hx
  obtain ⟨xs, m, _, _, hl, hl2, hf⟩ := DataW.trod_struct ht hx
  obtain ⟨a, hK, hF⟩ := h H enc W m cs (fun f hf0 => by
    obtain ⟨i, hi, rfl⟩ := List.mem_iff_getElem.1 hf0
    have hi' : i < fs.size := by simpa using hi
    have h1 := hf i fs[i] (by simp [hi'])
    rw [List.getElem?_eq_getElem (by omega)] at h1
    exact ⟨_, by simpa using h1⟩) (by rw [hl, hs]; omega)
  refine ⟨g' a, ?_, ?_⟩
  · show d.K W (g (g' a)) cs
    rw [hg]; exact hK
  · show F (g (g' a))
    rw [hg]; exact hF
/-- A struct whose fields are told one by one. -/
theorem opens_fields {t : TypeId} {fs : Array Field} {α : Type} {d : Kd α} {F : α → Prop} (ht : P.underlying t = some (.struct fs)) (hs : P.cellsOf t = d.sz) (h : OpensF P fs.toList 0 d F) : Opens P t d F :=
  opens_struct (fun a => a) (fun a => a) (fun _ => rfl) ht hs h

theorem imp {t : TypeId} {α : Type} {d : Kd α} {F G : α → Prop} (h : Opens P t d F) (hi : ∀ a, F a → G a) : Opens P t d G := by
  intro H enc W n cs x hx
  obtain ⟨a, h1, h2⟩ := h H enc W n cs x hx
  exact ⟨a, h1, hi a h2⟩
theorem Trod_opens {t : TypeId} {α : Type} {d : Kd α} {F : α → Prop} (h : Opens P t d F) {H : Type} {enc : TypeId × Value → H} {W : World} {v : Value} {x : DataW H} {ps : List MemPlace}
    (hx : DataW.Trod enc P W 0 (fun _ => true) true t v x ps) : ∃ a : α, d.K W a v.cells.toList ∧ F a := by
  obtain ⟨n, hn⟩ := hx
  exact h _ _ _ _ _ _ hn
end Go.Proofs.Ytankmdbbgepmbaa.Open
