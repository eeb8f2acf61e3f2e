-- Made by a program of this session out of the translation. Lean checks it.
import Derived.Test.YteajnkondkfmgaaPFnTakenx0
import Derived.Test.YteajnkondkfmgaaPFnTakenx2
import Derived.Test.YteajnkondkfmgaaPFnTakenx5
namespace Go.Proofs.Yteajnkondkfmgaa.PFnTaken
open Go.RowKit Go.Proofs.YteajnkondkfmgaaW.PrintWords Go.Proofs.YteajnkondkfmgaaW.PrintLast Go.Proofs.YteajnkondkfmgaaW.PrintMore
attribute [local go_sem] max2_int min2_int max_two min_two max_three min_three max_four min_four   -- for this text's walks alone
set_option linter.unusedVariables false
set_option linter.unusedSimpArgs false

/-! ### impl_PutIn: function 25 -/
def impl_PutIn.f (k : Nat) (l : List S79) (a1 a2 a3 : Int) : Option (List S79 × Int) :=
 (impl_copyStock.f k l).bind fun o => (impl_place.f k l a1 a2 a3).bind fun q =>
  if q.2 = 0 then (if 0 ≤ q.1 then (if q.1 < (o.length : Int) then
   (impl_stackAt.f k (rd_T79 o q.1).f0 (rd_T79 o q.1).f1 (rd_T79 o q.1).f2 a2).bind fun s =>
    if s.2 = true then (if 0 ≤ s.1 then (if s.1 < ((rd_T79 o q.1).f2.length : Int) then
      if wrap64 ((rd_T72 (rd_T79 o q.1).f2 s.1).f1 + a3) > 1000 then some (o, 4) else some (o.set q.1.toNat ⟨(rd_T79 o q.1).f0, (rd_T79 o q.1).f1, (rd_T79 o q.1).f2.set s.1.toNat ⟨(rd_T72 (rd_T79 o q.1).f2 s.1).f0, wrap64 ((rd_T72 (rd_T79 o q.1).f2 s.1).f1 + a3), (rd_T72 (rd_T79 o q.1).f2 s.1).f2⟩⟩, 0)
     else none) else none) else (if ((rd_T79 o q.1).f2.length : Int) ≥ 8 then some (o, 4) else (if 0 ≤ s.1 then (if s.1 ≤ ((rd_T79 o q.1).f2.length : Int) then
      some (o.set q.1.toNat ⟨(rd_T79 o q.1).f0, (rd_T79 o q.1).f1, (([] ++ (rd_T79 o q.1).f2.take s.1.toNat) ++ [⟨a2, a3, 0⟩]) ++ (rd_T79 o q.1).f2.drop s.1.toNat⟩, 0) else none) else none))
   else none) else none) else some (o, q.2)
theorem impl_PutIn.mono : ∀ l a1 a2 a3 k, LeO (impl_PutIn.f k l a1 a2 a3) (impl_PutIn.f (k + 1) l a1 a2 a3) := by
 intro l a1 a2 a3 k
 unfold impl_PutIn.f
 have j0 := @impl_copyStock.mono
 have j1 := @impl_place.mono
 have j2 := @impl_stackAt.mono
 exact qL
def impl_PutIn.T7 : Bool × List (List Nat × List Nat) := (true, [([], []), ([], []), ([1], [1]), ([2], [2]), ([3], [3]), ([], []), ([4, 5], [4, 5]), ([6], [6]), ([], []), ([], []), ([8, 9], [8, 9]), ([10], [10]), ([7, 11, 7], [7, 11]), ([], []), ([13], [13]), ([14], [14]), ([15], [15]), ([], []), ([16, 17], [16, 17]), ([12, 18, 12], [12, 18]), ([0, 0, 1, 2, 3, 4, 5, 6, 7, 8, 9, 10, 11, 12, 13, 14, 15, 16, 17, 18, 19], [0]), ([20, 0, 1, 2, 3, 4, 5, 6, 7, 8, 9, 10, 11, 12, 13, 14, 15, 16, 17, 18, 19], [20]), ([21, 19, 19, 0, 1, 2, 3, 4, 5, 6, 7, 8, 9, 10, 11, 12, 13, 14, 15, 16, 17, 18, 19], [19, 21])])
def impl_PutIn.B7 : List Nat := [0, 0, 2, 6, 14, 0, 62, 126, 0, 0, 768, 1792, 4094, 0, 8192, 24576, 57344, 0, 253952, 524286, 1048575, 2097151, 4194303]
theorem impl_PutIn.tab7 : rtab .any (opsOf Try.f25 7) = impl_PutIn.T7 := by kernel_rfl
theorem impl_PutIn.bits7 : waitsOk impl_PutIn.T7.2 impl_PutIn.B7 = true := by kernel_rfl
set_option maxHeartbeats 8000000 in
set_option maxRecDepth 100000 in
theorem impl_PutIn.calls (k : Nat) (A0 : Option Addr) (c0 : Nat) (l : List S79) (a1 a2 a3 : Int) (r1 : List S79) (r2 : Int) (w : World) (hr0 : Kd.C k79 w A0 l.length l) (hc0 : l.length ≤ c0) (h : impl_PutIn.f k l a1 a2 a3 = some (r1, r2)) :
  Calls Try.prog 25 #[.agg #[.slice A0 l.length c0], .int .i64 a1, .int .i64 a2, .int .i64 a3] w fun e w' => ∃ v0_ : Value, e = .returned (.tuple #[.agg #[v0_], .int .i64 r2]) ∧ Kd.S k79 79 w' w.heap.size (fun _ => True) v0_ r1 ∧ Below w.heap.size w w' := by
 have hu26 := Try.underlying26
 have hu79 := Try.underlying79
 have hu72 := Try.underlying72
 have hu24 := Try.underlying24
 have hu77 := Try.underlying77
 unfold impl_PutIn.f at h
 obtain ⟨o, ho, h⟩ := Option.bind_eq_some_iff.mp h
 obtain ⟨⟨i, code⟩, hp, h⟩ := Option.bind_eq_some_iff.mp h
 have Ho := aM ho
 have Hp := aM hp
 have HR := aM hr0
 have HC := aM hc0
 clear ho hp hr0 hc0
 dsimp only at h
 by_cases c1 : code = 0
 {
 subst c1
 rw [if_pos rfl] at h
 by_cases ci0 : 0 ≤ i
 {
 rw [if_pos ci0] at h
 by_cases ci1 : i < (o.length : Int)
 {
 rw [if_pos ci1] at h
 obtain ⟨⟨j, ok⟩, hs, h⟩ := Option.bind_eq_some_iff.mp h
 have Hs := aM hs
 clear hs
 dsimp only at h
 cases ok with
 | true =>
  rw [if_pos rfl] at h
  by_cases cj0 : 0 ≤ j
  {
  rw [if_pos cj0] at h
  by_cases cj1 : j < ((rd_T79 o i).f2.length : Int)
  {
  rw [if_pos cj1] at h
  by_cases c3 : wrap64 ((rd_T72 (rd_T79 o i).f2 j).f1 + a3) > 1000
  {
  rw [if_pos c3] at h
  obtain ⟨rfl, rfl⟩ : o = r1 ∧ 4 = r2 := by simpa using h
  clear h
  have c3b := decide_eq_true c3
  go_enter Try.func25, Try.ntmps25
  go_wp2_with (first
   | (go_at_call 65; refine (impl_copyStock.calls k A0 c0 l o _ (Kd.C_alloc (Kd.C_alloc HR.out _) _) HC.out Ho.out).mono ?_; rintro e w1 ⟨v0, rfl, hS, hb⟩; obtain ⟨Ao, co, rfl⟩ := Kd.S_slice hS; have B5 := aM (blk_below (blk_alloc (blk_new w (.cells #[.slice A0 l.length c0] 26)) (.cells #[.slice none 0 0] 26)) hb); have B10 := aM (blk_below (blk_new1 w (.cells #[.slice A0 l.length c0] 26) (.cells #[.slice none 0 0] 26)) hb); have HB1 := aM (below_step (below_alloc (below_alloc (Below.refl w.heap.size w) _) _) hb); have HS := aM (show Kd.S k79 79 w1 (w.heap.size + 2) (fun _ => True) (.slice Ao o.length co) o by rw [show w.heap.size + 2 = ((w.alloc (.cells #[.slice A0 l.length c0] 26)).alloc (.cells #[.slice none 0 0] 26)).heap.size by simp]; exact hS); have HGW := aM (Kd.S_lt hS); have C5 : w1.cell? ⟨w.heap.size, 0, none⟩ = some (.slice A0 l.length c0) := (blk_cell B5.out 0).trans rfl; have C10 : w1.cell? ⟨w.heap.size + 1, 0, none⟩ = some (.slice none 0 0) := (blk_cell B10.out 0).trans rfl; have F10 := blk_frozen B10.out 0; have L5 := blk_lt B5.out; have L10 := blk_lt B10.out; clear hb hS)
   | (go_at_call 68; refine (impl_place.calls k A0 c0 l a1 a2 a3 i 0 _ (Kd.C_below HR.out (below_alloc HB1.out _)) HC.out Hp.out).mono ?_; rintro e w2 ⟨rfl, hb⟩; have B12 := aM (blk_below (blk_new w1 (.cells #[.slice Ao o.length co] 26)) hb); replace B10 := aM (blk_below (blk_alloc B10.out _) hb); have HB2 := aM (below_step (below_alloc HB1.out _) hb); replace HS := aM (Kd.S_below (Kd.S_alloc HS.out _) hb); have N10 := Nat.ne_of_lt L10; clear C5 C10 F10 HB1 B5; have C12 : w2.cell? ⟨w1.heap.size, 0, none⟩ = some (.slice Ao o.length co) := (blk_cell B12.out 0).trans rfl; have F12 := blk_frozen B12.out 0; have C10 : w2.cell? ⟨w.heap.size + 1, 0, none⟩ = some (.slice none 0 0) := (blk_cell B10.out 0).trans rfl; have F10 := blk_frozen B10.out 0; have L10 := blk_lt B10.out; have L12 := blk_lt B12.out; clear hb; have HS' := HS.out; obtain ⟨g, oki, A2, c2, e, hgb, hgl, x0, x1, x2, f0, f1, f2, hR2, hoki, hn, hH⟩ := S79_at HS' i ci0 ci1; cases e; have HR2 := aM (Kd.R_reads' hR2); have HRs := aM hR2; have HGB := aM hgb; clear hR2 hoki hH hgb HS')
   | (go_at_call 67; refine (impl_stackAt.calls k (rd_T79 o i).f0 (rd_T79 o i).f1 A2 c2 (rd_T79 o i).f2 a2 j true _ HR2.out.2.2 HR2.out.2.1 Hs.out).mono ?_; rintro e w3 ⟨rfl, hb⟩; replace B12 := aM (blk_below B12.out hb); replace B10 := aM (blk_below B10.out hb); have HB3 := aM (below_step HB2.out hb); replace HS := aM (Kd.S_below HS.out hb); replace HRs := aM (Kd.R_below HRs.out hb); replace x0 := pw_cell_below hb x0; replace x1 := pw_cell_below hb x1; replace x2 := pw_cell_below hb x2; have HGL := aM (Nat.lt_of_lt_of_le hgl (below_size hb)); clear C12 F12 C10 F10 f0 f1 f2; have C12 : w3.cell? ⟨w1.heap.size, 0, none⟩ = some (.slice (some ⟨g, 0, none⟩) o.length co) := (blk_cell B12.out 0).trans rfl; have C10 : w3.cell? ⟨w.heap.size + 1, 0, none⟩ = some (.slice none 0 0) := (blk_cell B10.out 0).trans rfl; have F10 := blk_frozen B10.out 0; replace L10 := blk_lt B10.out; replace L12 := blk_lt B12.out; clear hb HB2; have HRs' := HRs.out; obtain ⟨g2, e, hgb2, hgl2, hok2, hn2, y0, y1, y2, z0, z1, z2, hput1, hput2⟩ := R72_at HRs' j cj0 cj1; cases e; clear hput1 hput2 HRs'; have HG2 := aM hgb2; clear hok2 hgb2))
  refine bodyPost_ret (results_ct rfl _ _ (w.heap.size + 1) 26 #[.slice (some ⟨g, 0, none⟩) o.length co] (0, 0) _ rfl (blk_put (cs := #[.slice none 0 0]) B10.out 0 _ rfl) Try.underlying26 rfl (by kernel_rfl)) rfl ?_
  exact ⟨_, rfl, Kd.S_lower (S_box HS.out (by omega) _) (by omega), below_set HB3.out (by omega)⟩
  }
  {
  rw [if_neg c3] at h
  have H := aM h
  clear h
  have c3b := decide_eq_false c3
  go_enter Try.func25, Try.ntmps25
  go_wp2_with (first
   | (go_at_call 65; refine (impl_copyStock.calls k A0 c0 l o _ (Kd.C_alloc (Kd.C_alloc HR.out _) _) HC.out Ho.out).mono ?_; rintro e w1 ⟨v0, rfl, hS, hb⟩; obtain ⟨Ao, co, rfl⟩ := Kd.S_slice hS; have B5 := aM (blk_below (blk_alloc (blk_new w (.cells #[.slice A0 l.length c0] 26)) (.cells #[.slice none 0 0] 26)) hb); have B10 := aM (blk_below (blk_new1 w (.cells #[.slice A0 l.length c0] 26) (.cells #[.slice none 0 0] 26)) hb); have HB1 := aM (below_step (below_alloc (below_alloc (Below.refl w.heap.size w) _) _) hb); have HS := aM (show Kd.S k79 79 w1 (w.heap.size + 2) (fun _ => True) (.slice Ao o.length co) o by rw [show w.heap.size + 2 = ((w.alloc (.cells #[.slice A0 l.length c0] 26)).alloc (.cells #[.slice none 0 0] 26)).heap.size by simp]; exact hS); have HGW := aM (Kd.S_lt hS); have C5 : w1.cell? ⟨w.heap.size, 0, none⟩ = some (.slice A0 l.length c0) := (blk_cell B5.out 0).trans rfl; have C10 : w1.cell? ⟨w.heap.size + 1, 0, none⟩ = some (.slice none 0 0) := (blk_cell B10.out 0).trans rfl; have F10 := blk_frozen B10.out 0; have L5 := blk_lt B5.out; have L10 := blk_lt B10.out; clear hb hS)
   | (go_at_call 68; refine (impl_place.calls k A0 c0 l a1 a2 a3 i 0 _ (Kd.C_below HR.out (below_alloc HB1.out _)) HC.out Hp.out).mono ?_; rintro e w2 ⟨rfl, hb⟩; have B12 := aM (blk_below (blk_new w1 (.cells #[.slice Ao o.length co] 26)) hb); replace B10 := aM (blk_below (blk_alloc B10.out _) hb); have HB2 := aM (below_step (below_alloc HB1.out _) hb); replace HS := aM (Kd.S_below (Kd.S_alloc HS.out _) hb); have N10 := Nat.ne_of_lt L10; clear C5 C10 F10 HB1 B5; have C12 : w2.cell? ⟨w1.heap.size, 0, none⟩ = some (.slice Ao o.length co) := (blk_cell B12.out 0).trans rfl; have F12 := blk_frozen B12.out 0; have C10 : w2.cell? ⟨w.heap.size + 1, 0, none⟩ = some (.slice none 0 0) := (blk_cell B10.out 0).trans rfl; have F10 := blk_frozen B10.out 0; have L10 := blk_lt B10.out; have L12 := blk_lt B12.out; clear hb; have HS' := HS.out; obtain ⟨g, oki, A2, c2, e, hgb, hgl, x0, x1, x2, f0, f1, f2, hR2, hoki, hn, hH⟩ := S79_at HS' i ci0 ci1; cases e; have HR2 := aM (Kd.R_reads' hR2); have HRs := aM hR2; have HGB := aM hgb; clear hR2 hoki hH hgb HS')
   | (go_at_call 67; refine (impl_stackAt.calls k (rd_T79 o i).f0 (rd_T79 o i).f1 A2 c2 (rd_T79 o i).f2 a2 j true _ HR2.out.2.2 HR2.out.2.1 Hs.out).mono ?_; rintro e w3 ⟨rfl, hb⟩; replace B12 := aM (blk_below B12.out hb); replace B10 := aM (blk_below B10.out hb); have HB3 := aM (below_step HB2.out hb); replace HS := aM (Kd.S_below HS.out hb); replace HRs := aM (Kd.R_below HRs.out hb); replace x0 := pw_cell_below hb x0; replace x1 := pw_cell_below hb x1; replace x2 := pw_cell_below hb x2; have HGL := aM (Nat.lt_of_lt_of_le hgl (below_size hb)); clear C12 F12 C10 F10 f0 f1 f2; have C12 : w3.cell? ⟨w1.heap.size, 0, none⟩ = some (.slice (some ⟨g, 0, none⟩) o.length co) := (blk_cell B12.out 0).trans rfl; have C10 : w3.cell? ⟨w.heap.size + 1, 0, none⟩ = some (.slice none 0 0) := (blk_cell B10.out 0).trans rfl; have F10 := blk_frozen B10.out 0; replace L10 := blk_lt B10.out; replace L12 := blk_lt B12.out; clear hb HB2; have HRs' := HRs.out; obtain ⟨g2, e, hgb2, hgl2, hok2, hn2, y0, y1, y2, z0, z1, z2, hput1, hput2⟩ := R72_at HRs' j cj0 cj1; cases e; clear hput1 hput2 HRs'; have HG2 := aM hgb2; clear hok2 hgb2))
  have hP := (S79_put HS.out i j ci0 ci1 cj0 cj1 (c2 := c2) (g2 := g2) x2 (wrap64 ((rd_T72 (rd_T79 o i).f2 j).f1 + a3)))
  have hG := HG2.out
  obtain ⟨rfl, rfl⟩ : _ = r1 ∧ _ = r2 := by simpa using H.out
  refine bodyPost_ret (results_ct rfl _ _ (w.heap.size + 1) 26 #[.slice (some ⟨g, 0, none⟩) o.length co] (0, 0) _ rfl (blk_put (cs := #[.slice none 0 0]) (blk_far B10.out (by show w.heap.size + 1 ≠ g2; omega) _) 0 _ rfl) Try.underlying26 rfl (by kernel_rfl)) rfl ?_
  exact ⟨_, rfl, Kd.S_lower (S_box hP.1.1 (by omega) _) (by omega), below_set (below_set HB3.out (by omega)) (by omega)⟩
  }
  }
  {
  rw [if_neg cj1] at h; cases h
  }
  }
  {
  rw [if_neg cj0] at h; cases h
  }
 | false =>
  rw [if_neg (by decide)] at h
  by_cases c3 : ((rd_T79 o i).f2.length : Int) ≥ 8
  {
  rw [if_pos c3] at h
  obtain ⟨rfl, rfl⟩ : o = r1 ∧ 4 = r2 := by simpa using h
  clear h
  have c3b := decide_eq_true c3
  go_enter Try.func25, Try.ntmps25
  go_wp2_with (first
   | (go_at_call 65; refine (impl_copyStock.calls k A0 c0 l o _ (Kd.C_alloc (Kd.C_alloc HR.out _) _) HC.out Ho.out).mono ?_; rintro e w1 ⟨v0, rfl, hS, hb⟩; obtain ⟨Ao, co, rfl⟩ := Kd.S_slice hS; have B5 := aM (blk_below (blk_alloc (blk_new w (.cells #[.slice A0 l.length c0] 26)) (.cells #[.slice none 0 0] 26)) hb); have B10 := aM (blk_below (blk_new1 w (.cells #[.slice A0 l.length c0] 26) (.cells #[.slice none 0 0] 26)) hb); have HB1 := aM (below_step (below_alloc (below_alloc (Below.refl w.heap.size w) _) _) hb); have HS := aM (show Kd.S k79 79 w1 (w.heap.size + 2) (fun _ => True) (.slice Ao o.length co) o by rw [show w.heap.size + 2 = ((w.alloc (.cells #[.slice A0 l.length c0] 26)).alloc (.cells #[.slice none 0 0] 26)).heap.size by simp]; exact hS); have HGW := aM (Kd.S_lt hS); have C5 : w1.cell? ⟨w.heap.size, 0, none⟩ = some (.slice A0 l.length c0) := (blk_cell B5.out 0).trans rfl; have C10 : w1.cell? ⟨w.heap.size + 1, 0, none⟩ = some (.slice none 0 0) := (blk_cell B10.out 0).trans rfl; have F10 := blk_frozen B10.out 0; have L5 := blk_lt B5.out; have L10 := blk_lt B10.out; clear hb hS)
   | (go_at_call 68; refine (impl_place.calls k A0 c0 l a1 a2 a3 i 0 _ (Kd.C_below HR.out (below_alloc HB1.out _)) HC.out Hp.out).mono ?_; rintro e w2 ⟨rfl, hb⟩; have B12 := aM (blk_below (blk_new w1 (.cells #[.slice Ao o.length co] 26)) hb); replace B10 := aM (blk_below (blk_alloc B10.out _) hb); have HB2 := aM (below_step (below_alloc HB1.out _) hb); replace HS := aM (Kd.S_below (Kd.S_alloc HS.out _) hb); have N10 := Nat.ne_of_lt L10; clear C5 C10 F10 HB1 B5; have C12 : w2.cell? ⟨w1.heap.size, 0, none⟩ = some (.slice Ao o.length co) := (blk_cell B12.out 0).trans rfl; have F12 := blk_frozen B12.out 0; have C10 : w2.cell? ⟨w.heap.size + 1, 0, none⟩ = some (.slice none 0 0) := (blk_cell B10.out 0).trans rfl; have F10 := blk_frozen B10.out 0; have L10 := blk_lt B10.out; have L12 := blk_lt B12.out; clear hb; have HS' := HS.out; obtain ⟨g, oki, A2, c2, e, hgb, hgl, x0, x1, x2, f0, f1, f2, hR2, hoki, hn, hH⟩ := S79_at HS' i ci0 ci1; cases e; have HR2 := aM (Kd.R_reads' hR2); have HRs := aM hR2; have HGB := aM hgb; clear hR2 hoki hH hgb HS')
   | (go_at_call 67; refine (impl_stackAt.calls k (rd_T79 o i).f0 (rd_T79 o i).f1 A2 c2 (rd_T79 o i).f2 a2 j false _ HR2.out.2.2 HR2.out.2.1 Hs.out).mono ?_; rintro e w3 ⟨rfl, hb⟩; replace B12 := aM (blk_below B12.out hb); replace B10 := aM (blk_below B10.out hb); have HB3 := aM (below_step HB2.out hb); replace HS := aM (Kd.S_below HS.out hb); replace HRs := aM (Kd.R_below HRs.out hb); replace x0 := pw_cell_below hb x0; replace x1 := pw_cell_below hb x1; replace x2 := pw_cell_below hb x2; have HGL := aM (Nat.lt_of_lt_of_le hgl (below_size hb)); clear C12 F12 C10 F10 f0 f1 f2; have C12 : w3.cell? ⟨w1.heap.size, 0, none⟩ = some (.slice (some ⟨g, 0, none⟩) o.length co) := (blk_cell B12.out 0).trans rfl; have C10 : w3.cell? ⟨w.heap.size + 1, 0, none⟩ = some (.slice none 0 0) := (blk_cell B10.out 0).trans rfl; have F10 := blk_frozen B10.out 0; replace L10 := blk_lt B10.out; replace L12 := blk_lt B12.out; clear hb HB2))
  refine bodyPost_ret (results_ct rfl _ _ (w.heap.size + 1) 26 #[.slice (some ⟨g, 0, none⟩) o.length co] (0, 0) _ rfl (blk_put (cs := #[.slice none 0 0]) B10.out 0 _ rfl) Try.underlying26 rfl (by kernel_rfl)) rfl ?_
  exact ⟨_, rfl, Kd.S_lower (S_box HS.out (by omega) _) (by omega), below_set HB3.out (by omega)⟩
  }
  {
  rw [if_neg c3] at h
  have c3b := decide_eq_false c3
  by_cases cj0 : 0 ≤ j
  {
  rw [if_pos cj0] at h
  by_cases cj1 : j ≤ ((rd_T79 o i).f2.length : Int)
  {
  rw [if_pos cj1] at h
  have H := aM h
  clear h
  go_enter Try.func25, Try.ntmps25
  go_wp2_with (first
   | (go_at_call 65; refine (impl_copyStock.calls k A0 c0 l o _ (Kd.C_alloc (Kd.C_alloc HR.out _) _) HC.out Ho.out).mono ?_; rintro e w1 ⟨v0, rfl, hS, hb⟩; obtain ⟨Ao, co, rfl⟩ := Kd.S_slice hS; have B5 := aM (blk_below (blk_alloc (blk_new w (.cells #[.slice A0 l.length c0] 26)) (.cells #[.slice none 0 0] 26)) hb); have B10 := aM (blk_below (blk_new1 w (.cells #[.slice A0 l.length c0] 26) (.cells #[.slice none 0 0] 26)) hb); have HB1 := aM (below_step (below_alloc (below_alloc (Below.refl w.heap.size w) _) _) hb); have HS := aM (show Kd.S k79 79 w1 (w.heap.size + 2) (fun _ => True) (.slice Ao o.length co) o by rw [show w.heap.size + 2 = ((w.alloc (.cells #[.slice A0 l.length c0] 26)).alloc (.cells #[.slice none 0 0] 26)).heap.size by simp]; exact hS); have HGW := aM (Kd.S_lt hS); have C5 : w1.cell? ⟨w.heap.size, 0, none⟩ = some (.slice A0 l.length c0) := (blk_cell B5.out 0).trans rfl; have C10 : w1.cell? ⟨w.heap.size + 1, 0, none⟩ = some (.slice none 0 0) := (blk_cell B10.out 0).trans rfl; have F10 := blk_frozen B10.out 0; have L5 := blk_lt B5.out; have L10 := blk_lt B10.out; clear hb hS)
   | (go_at_call 68; refine (impl_place.calls k A0 c0 l a1 a2 a3 i 0 _ (Kd.C_below HR.out (below_alloc HB1.out _)) HC.out Hp.out).mono ?_; rintro e w2 ⟨rfl, hb⟩; have B12 := aM (blk_below (blk_new w1 (.cells #[.slice Ao o.length co] 26)) hb); replace B10 := aM (blk_below (blk_alloc B10.out _) hb); have HB2 := aM (below_step (below_alloc HB1.out _) hb); replace HS := aM (Kd.S_below (Kd.S_alloc HS.out _) hb); have N10 := Nat.ne_of_lt L10; clear C5 C10 F10 HB1 B5; have C12 : w2.cell? ⟨w1.heap.size, 0, none⟩ = some (.slice Ao o.length co) := (blk_cell B12.out 0).trans rfl; have F12 := blk_frozen B12.out 0; have C10 : w2.cell? ⟨w.heap.size + 1, 0, none⟩ = some (.slice none 0 0) := (blk_cell B10.out 0).trans rfl; have F10 := blk_frozen B10.out 0; have L10 := blk_lt B10.out; have L12 := blk_lt B12.out; clear hb; have HS' := HS.out; obtain ⟨g, oki, A2, c2, e, hgb, hgl, x0, x1, x2, f0, f1, f2, hR2, hoki, hn, hH⟩ := S79_at HS' i ci0 ci1; cases e; have HR2 := aM (Kd.R_reads' hR2); have HRs := aM hR2; have HGB := aM hgb; clear hR2 hoki hH hgb HS')
   | (go_at_call 67; refine (impl_stackAt.calls k (rd_T79 o i).f0 (rd_T79 o i).f1 A2 c2 (rd_T79 o i).f2 a2 j false _ HR2.out.2.2 HR2.out.2.1 Hs.out).mono ?_; rintro e w3 ⟨rfl, hb⟩; replace B12 := aM (blk_below B12.out hb); replace B10 := aM (blk_below B10.out hb); have HB3 := aM (below_step HB2.out hb); replace HS := aM (Kd.S_below HS.out hb); replace HRs := aM (Kd.R_below HRs.out hb); replace x0 := pw_cell_below hb x0; replace x1 := pw_cell_below hb x1; replace x2 := pw_cell_below hb x2; have HGL := aM (Nat.lt_of_lt_of_le hgl (below_size hb)); clear C12 F12 C10 F10 f0 f1 f2; have C12 : w3.cell? ⟨w1.heap.size, 0, none⟩ = some (.slice (some ⟨g, 0, none⟩) o.length co) := (blk_cell B12.out 0).trans rfl; have C10 : w3.cell? ⟨w.heap.size + 1, 0, none⟩ = some (.slice none 0 0) := (blk_cell B10.out 0).trans rfl; have F10 := blk_frozen B10.out 0; replace L10 := blk_lt B10.out; replace L12 := blk_lt B12.out; clear hb HB2))
  have hC := Kd.R_reads' HRs.out
  have hCA := Kd.C_drew (Kd.C_take hC.2.2 (m := j.toNat) (by omega))
  have hCB := Kd.C_drew (Kd.C_drop hC.2.2 (m := j.toNat) (by omega) hC.2.1)
  have e1 : ((rd_T79 o i).f2.take j.toNat).length = j.toNat := by rw [List.length_take]; omega
  rw [e1] at hCA
  rw [List.length_drop] at hCB
  obtain ⟨ti, hti, htz⟩ := Option.map_eq_some_iff.1 info72
  simp only [Prod.mk.injEq] at htz
  have hcut1 := cut_to (P := Try.prog) 77 72 .i64 Try.underlying77 hti A2 (rd_T79 o i).f2.length c2 j cj0 cj1 hC.2.1
  have hcut2 := cut_from (P := Try.prog) 77 72 .i64 Try.underlying77 hti 3 htz.2.1 A2 (rd_T79 o i).f2.length c2 j cj0 cj1
  have HX := x2
  have HSB := aM (Kd.S_drew (Kd.S_mono (Kd.S_bound HS.out) (ok' := fun k => k < w3.heap.size) (fun k hk => hk.2.2.1)))
  have LM : ((rd_T79 o i).f2.length : Int) < 8 := by omega
  refine start_ (n := 23) (S := fun w' => w'.cell? ⟨g, i.toNat * 3 + 2, none⟩ = some (.slice A2 (rd_T79 o i).f2.length c2)) (ds := [22]) #[false, false, false, false, false, false, false, false, false, false, false, false, false, false, false, false, false, false, false, false, false, false, false] (by kernel_rfl) rfl rfl x2 (fun hHeld => ?_); refine with_tabW impl_PutIn.tab7 impl_PutIn.bits7 (fun HT_ HW_ => ?_)
  refine pI_ 0 42 (bqz 23 1) ?_
  refine jI_ 1 43 ?_
  refine jI_ 2 44 ?_
  refine jI_ 3 45 ?_
  refine jI_ 5 47 ?_
  refine jI_ 8 50 ?_
  refine jI_ 9 51 ?_
  refine jI_ 10 52 ?_
  refine jI_ 13 55 ?_
  refine jI_ 14 56 ?_
  refine jI_ 15 57 ?_
  refine jI_ 17 59 ?_
  refine sI1_ 4 46 ?_
  refine jI_ 6 48 ?_
  refine sI1_ 16 58 ?_
  refine jI_ 18 60 ?_
  have hH0 := hHeld
  refine two_ (i := 7) (j := 11) (Ni := some 49) (Nj := some 53) (bqz 23 518143) (bqz 23 520063) rfl rfl rfl rfl (two_of HT_.out (by kernel_rfl)) (by decide) (by decide) (fun K hK => ?_) (fun K hK => ?_)
  {
  refine Kd.R_append_rows_step k72 (w0 := w3.drew) w3.drew.heap.size rfl (.const (.slice none 0 0)) (.tmp 48) 77 72 (.agg #[(.int .i64 0), (.int .i64 0), (.int .i64 0)]) 24 rfl Try.underlying77 info72 rfl (by decide) (by omega) (.slice none 0 0) ([] : List S72) ((rd_T79 o i).f2.take j.toNat) A2 j.toNat c2 (fun _ => True) (fun _ => False) (by rfl) (by rfl) (Kd.R_nil _ _ _ _ _) hCA (fun _ _ h => h) (fun _ h => h.elim) (fun _ _ => trivial) (Below.refl _ _) (Nat.le_refl _) (by simp only [List.length_nil]; omega) ?_
  intro v5 w5 ho5 hb5 hg5 hat5
  refine hK.out _ _ (pw_cell_below hb5 hH0) (fun hHeld => ?_)
  clear hK K
  refine nm_ 49 ?_
  refine one_ (i := 11) (N := some 53) (bqz 23 520191) rfl rfl qzc (by decide) (fun K hK => ?_)
  refine Kd.R_lit_step k72 (w0 := w5) w5.heap.size 72 rfl (N := 53) rfl (xs := ([⟨a2, a3, 0⟩] : List S72)) (inner := [.int .i64 a2, .int .i64 a3, .int .i64 0]) (ok := fun _ => True) (okp := fun _ => True) ?hr ?hp (fun _ hk => hk) trivial (Below.refl _ _) (Nat.le_refl _) (by simp) ?_; (case hr => exact qz27); (case hp => exact Reps.c3 (k72_mkM _ _ _ (⟨a2, a3, 0⟩ : S72)) (Reps.none _ _))
  intro v6 w6 ho6 hb6 hg6 hat6
  obtain ⟨A6, c6, rfl⟩ := Kd.R_slice ho6
  refine hK.out _ _ (pw_cell_below (below_step hb5 hb6) hH0) (fun hHeld => ?_)
  clear hK K
  refine nm_ 53 ?_
  replace ho5 := Kd.R_below ho5 hb6
  have hL := (Kd.R_reads' ho6).2.2
  have hbq := below_step hb5 hb6
  refine one_ (i := 12) (N := some 54) (bqz 23 524287) rfl rfl qzc (by decide) (fun K hK => ?_)
  refine Kd.R_append_rows_step k72 (w0 := w3.drew) w3.drew.heap.size rfl (.tmp 49) (.tmp 53) 77 72 (.agg #[(.int .i64 0), (.int .i64 0), (.int .i64 0)]) 24 rfl Try.underlying77 info72 rfl (by decide) (by omega) v5 ([] ++ ((rd_T79 o i).f2.take j.toNat)) [⟨a2, a3, 0⟩] A6 1 c6 (fun _ => True) (fun _ => False) (by rfl) (by rfl) ho5 hL (fun _ _ h => h) (fun _ h => h.elim) (fun _ _ => trivial) hbq (below_size hbq) (by simp only [List.nil_append, e1]; omega) ?_
  intro v7 w7 ho7 hb7 hg7 hat7
  refine hK.out _ _ (pw_cell_below hb7 hH0) (fun hHeld => ?_)
  clear hK K
  refine nm_ 54 ?_
  refine one_ (i := 19) (N := some 61) (bqz 23 1048575) rfl rfl qzc (by decide) (fun K hK => ?_)
  refine Kd.R_append_rows_step k72 (w0 := w3.drew) w3.drew.heap.size rfl (.tmp 54) (.tmp 60) 77 72 (.agg #[(.int .i64 0), (.int .i64 0), (.int .i64 0)]) 24 rfl Try.underlying77 info72 rfl (by decide) (by omega) v7 (([] ++ ((rd_T79 o i).f2.take j.toNat)) ++ [⟨a2, a3, 0⟩]) ((rd_T79 o i).f2.drop j.toNat) (if c2 = j.toNat then A2 else A2.map (·.add (j.toNat * 3))) ((rd_T79 o i).f2.length - j.toNat) (c2 - j.toNat) (fun _ => True) (fun _ => False) (by rfl) (by rfl) ho7 (Kd.C_below hCB hb7) (fun _ _ h => h) (fun _ h => h.elim) (fun _ _ => trivial) hb7 (below_size hb7) (by simp only [List.nil_append, List.length_append, e1, List.length_singleton]; omega) ?_
  intro v8 w8 ho8 hb8 hg8 hat8
  obtain ⟨A8, c8, rfl⟩ := Kd.R_slice ho8
  refine hK.out _ _ (pw_cell_below hb8 hH0) (fun hHeld => ?_)
  clear hK K
  refine nm_ 61 ?_
  refine jI_ 20 62 ?_
  refine jI_ 21 63 ?_
  have hS8 := Kd.S_below HSB.out hb8
  obtain ⟨g', oki', A2', c2', e', hgb', hgl', q0, q1, q2, f0, f1, f2, _, _, _, _⟩ := S79_at hS8 i ci0 ci1
  injection e' with e'; injection e' with e'; subst e'
  clear q0 q1 f0 f1
  refine last_ (i := 22) (N := none) (bqz 23 8388607) rfl rfl qzc (by decide) (fun K hK => ?_)
  refine sk_ ?_
  refine hK.out _ _ ?_
  clear hK K
  refine done_ (done_of HT_.out (by kernel_rfl)) ?_
  clear hcut1 hcut2 hCA hCB e1
  have hP := S79_row hS8 (fun k hk hlt => Nat.lt_irrefl _ (Nat.lt_of_lt_of_le hlt hk)) ho8 (by show w.heap.size + 2 ≤ w3.heap.size; omega) i ci0 ci1 HGL.out
  have hlen : ((([] ++ ((rd_T79 o i).f2.take j.toNat)) ++ [(⟨a2, a3, 0⟩ : S72)]) ++ ((rd_T79 o i).f2.drop j.toNat)).length = j.toNat + ((rd_T79 o i).f2.length - j.toNat + 1) := by simp only [List.nil_append, List.length_append, List.length_take, List.length_drop, List.length_singleton]; omega
  rw [hlen] at hP
  have hbz : Below w3.heap.size w3 w8 := below_then (below_drew (Below.refl _ _)) (Nat.le_refl _) hb8
  replace HB3 := aM (below_step HB3.out hbz)
  have HGW := HGW.out g rfl
  have B10' := blk_below B10.out hbz
  replace C12 := pw_cell_below hbz C12
  replace C10 := pw_cell_below hbz C10
  have F10' := blk_frozen B10' 0
  clear F10
  have HGB := HGB.out
  have NG := Nat.ne_of_lt HGW
  have NG' := Nat.ne_of_gt HGW
  have NR : g ≠ w.heap.size + 1 := by omega
  have NR' : w.heap.size + 1 ≠ g := by omega
  clear q2 x2 hH0 HX hHeld
  have h := H.out
  obtain ⟨rfl, rfl⟩ : _ = r1 ∧ _ = r2 := by simpa using h
  clear h H
  generalize (if c2 = j.toNat then A2 else Option.map (fun x => x.add (j.toNat * 3)) A2) = AQ
  go_wp2
  refine bodyPost_ret (results_ct rfl _ _ (w.heap.size + 1) 26 #[.slice (some ⟨g, 0, none⟩) o.length co] (0, 0) _ rfl (blk_put (cs := #[.slice none 0 0]) (blk_far B10' NR' _) 0 _ rfl) Try.underlying26 rfl (by kernel_rfl)) rfl ?_
  exact ⟨_, rfl, by have h9 := Kd.S_mono (ok' := fun _ => True) (Kd.S_lower (S_box hP.1 (show w.heap.size + 1 < w.heap.size + 2 by omega) (.slice (some ⟨g, 0, none⟩) o.length co)) (show w.heap.size ≤ w.heap.size + 2 by omega)) (fun _ _ => trivial); simpa using h9, below_set (below_set HB3.out (by omega)) (by omega)⟩
  }
  {
  refine Kd.R_lit_step k72 (w0 := w3.drew) w3.drew.heap.size 72 rfl (N := 53) rfl (xs := ([⟨a2, a3, 0⟩] : List S72)) (inner := [.int .i64 a2, .int .i64 a3, .int .i64 0]) (ok := fun _ => True) (okp := fun _ => True) ?hr ?hp (fun _ hk => hk) trivial (Below.refl _ _) (Nat.le_refl _) (by simp) ?_; (case hr => exact qz27); (case hp => exact Reps.c3 (k72_mkM _ _ _ (⟨a2, a3, 0⟩ : S72)) (Reps.none _ _))
  intro v6 w6 ho6 hb6 hg6 hat6
  obtain ⟨A6, c6, rfl⟩ := Kd.R_slice ho6
  refine hK.out _ _ (pw_cell_below hb6 hH0) (fun hHeld => ?_)
  clear hK K
  refine nm_ 53 ?_
  refine one_ (i := 7) (N := some 49) (bqz 23 520191) rfl rfl qzc (by decide) (fun K hK => ?_)
  refine Kd.R_append_rows_step k72 (w0 := w3.drew) w3.drew.heap.size rfl (.const (.slice none 0 0)) (.tmp 48) 77 72 (.agg #[(.int .i64 0), (.int .i64 0), (.int .i64 0)]) 24 rfl Try.underlying77 info72 rfl (by decide) (by omega) (.slice none 0 0) ([] : List S72) ((rd_T79 o i).f2.take j.toNat) A2 j.toNat c2 (fun _ => True) (fun _ => False) (by rfl) (by rfl) (Kd.R_nil _ _ _ _ _) (Kd.C_below hCA hb6) (fun _ _ h => h) (fun _ h => h.elim) (fun _ _ => trivial) hb6 (below_size hb6) (by simp only [List.length_nil]; omega) ?_
  intro v5 w5 ho5 hb5 hg5 hat5
  refine hK.out _ _ (pw_cell_below hb5 hH0) (fun hHeld => ?_)
  clear hK K
  refine nm_ 49 ?_
  have hL := (Kd.R_reads' (Kd.R_grown ho6 hg5 (fun k _ => by simp [Value.ownBlock]))).2.2
  have hbq := hb5
  refine one_ (i := 12) (N := some 54) (bqz 23 524287) rfl rfl qzc (by decide) (fun K hK => ?_)
  refine Kd.R_append_rows_step k72 (w0 := w3.drew) w3.drew.heap.size rfl (.tmp 49) (.tmp 53) 77 72 (.agg #[(.int .i64 0), (.int .i64 0), (.int .i64 0)]) 24 rfl Try.underlying77 info72 rfl (by decide) (by omega) v5 ([] ++ ((rd_T79 o i).f2.take j.toNat)) [⟨a2, a3, 0⟩] A6 1 c6 (fun _ => True) (fun _ => False) (by rfl) (by rfl) ho5 hL (fun _ _ h => h) (fun _ h => h.elim) (fun _ _ => trivial) hbq (below_size hbq) (by simp only [List.nil_append, e1]; omega) ?_
  intro v7 w7 ho7 hb7 hg7 hat7
  refine hK.out _ _ (pw_cell_below hb7 hH0) (fun hHeld => ?_)
  clear hK K
  refine nm_ 54 ?_
  refine one_ (i := 19) (N := some 61) (bqz 23 1048575) rfl rfl qzc (by decide) (fun K hK => ?_)
  refine Kd.R_append_rows_step k72 (w0 := w3.drew) w3.drew.heap.size rfl (.tmp 54) (.tmp 60) 77 72 (.agg #[(.int .i64 0), (.int .i64 0), (.int .i64 0)]) 24 rfl Try.underlying77 info72 rfl (by decide) (by omega) v7 (([] ++ ((rd_T79 o i).f2.take j.toNat)) ++ [⟨a2, a3, 0⟩]) ((rd_T79 o i).f2.drop j.toNat) (if c2 = j.toNat then A2 else A2.map (·.add (j.toNat * 3))) ((rd_T79 o i).f2.length - j.toNat) (c2 - j.toNat) (fun _ => True) (fun _ => False) (by rfl) (by rfl) ho7 (Kd.C_below hCB hb7) (fun _ _ h => h) (fun _ h => h.elim) (fun _ _ => trivial) hb7 (below_size hb7) (by simp only [List.nil_append, List.length_append, e1, List.length_singleton]; omega) ?_
  intro v8 w8 ho8 hb8 hg8 hat8
  obtain ⟨A8, c8, rfl⟩ := Kd.R_slice ho8
  refine hK.out _ _ (pw_cell_below hb8 hH0) (fun hHeld => ?_)
  clear hK K
  refine nm_ 61 ?_
  refine jI_ 20 62 ?_
  refine jI_ 21 63 ?_
  have hS8 := Kd.S_below HSB.out hb8
  obtain ⟨g', oki', A2', c2', e', hgb', hgl', q0, q1, q2, f0, f1, f2, _, _, _, _⟩ := S79_at hS8 i ci0 ci1
  injection e' with e'; injection e' with e'; subst e'
  clear q0 q1 f0 f1
  refine last_ (i := 22) (N := none) (bqz 23 8388607) rfl rfl qzc (by decide) (fun K hK => ?_)
  refine sk_ ?_
  refine hK.out _ _ ?_
  clear hK K
  refine done_ (done_of HT_.out (by kernel_rfl)) ?_
  clear hcut1 hcut2 hCA hCB e1
  have hP := S79_row hS8 (fun k hk hlt => Nat.lt_irrefl _ (Nat.lt_of_lt_of_le hlt hk)) ho8 (by show w.heap.size + 2 ≤ w3.heap.size; omega) i ci0 ci1 HGL.out
  have hlen : ((([] ++ ((rd_T79 o i).f2.take j.toNat)) ++ [(⟨a2, a3, 0⟩ : S72)]) ++ ((rd_T79 o i).f2.drop j.toNat)).length = j.toNat + ((rd_T79 o i).f2.length - j.toNat + 1) := by simp only [List.nil_append, List.length_append, List.length_take, List.length_drop, List.length_singleton]; omega
  rw [hlen] at hP
  have hbz : Below w3.heap.size w3 w8 := below_then (below_drew (Below.refl _ _)) (Nat.le_refl _) hb8
  replace HB3 := aM (below_step HB3.out hbz)
  have HGW := HGW.out g rfl
  have B10' := blk_below B10.out hbz
  replace C12 := pw_cell_below hbz C12
  replace C10 := pw_cell_below hbz C10
  have F10' := blk_frozen B10' 0
  clear F10
  have HGB := HGB.out
  have NG := Nat.ne_of_lt HGW
  have NG' := Nat.ne_of_gt HGW
  have NR : g ≠ w.heap.size + 1 := by omega
  have NR' : w.heap.size + 1 ≠ g := by omega
  clear q2 x2 hH0 HX hHeld
  have h := H.out
  obtain ⟨rfl, rfl⟩ : _ = r1 ∧ _ = r2 := by simpa using h
  clear h H
  generalize (if c2 = j.toNat then A2 else Option.map (fun x => x.add (j.toNat * 3)) A2) = AQ
  go_wp2
  refine bodyPost_ret (results_ct rfl _ _ (w.heap.size + 1) 26 #[.slice (some ⟨g, 0, none⟩) o.length co] (0, 0) _ rfl (blk_put (cs := #[.slice none 0 0]) (blk_far B10' NR' _) 0 _ rfl) Try.underlying26 rfl (by kernel_rfl)) rfl ?_
  exact ⟨_, rfl, by have h9 := Kd.S_mono (ok' := fun _ => True) (Kd.S_lower (S_box hP.1 (show w.heap.size + 1 < w.heap.size + 2 by omega) (.slice (some ⟨g, 0, none⟩) o.length co)) (show w.heap.size ≤ w.heap.size + 2 by omega)) (fun _ _ => trivial); simpa using h9, below_set (below_set HB3.out (by omega)) (by omega)⟩
  }
  }
  {
  rw [if_neg cj1] at h; cases h
  }
  }
  {
  rw [if_neg cj0] at h; cases h
  }
  }
 }
 {
 rw [if_neg ci1] at h; cases h
 }
 }
 {
 rw [if_neg ci0] at h; cases h
 }
 }
 {
 rw [if_neg c1] at h
 obtain ⟨rfl, rfl⟩ : o = r1 ∧ code = r2 := by simpa using h
 have c1b : (code != 0) = true := by simpa using c1
 clear h c1
 go_enter Try.func25, Try.ntmps25
 go_wp2_with (first
  | (go_at_call 65; refine (impl_copyStock.calls k A0 c0 l o _ (Kd.C_alloc (Kd.C_alloc HR.out _) _) HC.out Ho.out).mono ?_; rintro e w1 ⟨v0, rfl, hS, hb⟩; obtain ⟨Ao, co, rfl⟩ := Kd.S_slice hS; have B5 := aM (blk_below (blk_alloc (blk_new w (.cells #[.slice A0 l.length c0] 26)) (.cells #[.slice none 0 0] 26)) hb); have B10 := aM (blk_below (blk_new1 w (.cells #[.slice A0 l.length c0] 26) (.cells #[.slice none 0 0] 26)) hb); have HB1 := aM (below_step (below_alloc (below_alloc (Below.refl w.heap.size w) _) _) hb); have HS := aM (show Kd.S k79 79 w1 (w.heap.size + 2) (fun _ => True) (.slice Ao o.length co) o by rw [show w.heap.size + 2 = ((w.alloc (.cells #[.slice A0 l.length c0] 26)).alloc (.cells #[.slice none 0 0] 26)).heap.size by simp]; exact hS); have HGW := aM (Kd.S_lt hS); have C5 : w1.cell? ⟨w.heap.size, 0, none⟩ = some (.slice A0 l.length c0) := (blk_cell B5.out 0).trans rfl; have C10 : w1.cell? ⟨w.heap.size + 1, 0, none⟩ = some (.slice none 0 0) := (blk_cell B10.out 0).trans rfl; have F10 := blk_frozen B10.out 0; have L5 := blk_lt B5.out; have L10 := blk_lt B10.out; clear hb hS)
  | (go_at_call 68; refine (impl_place.calls k A0 c0 l a1 a2 a3 i code _ (Kd.C_below HR.out (below_alloc HB1.out _)) HC.out Hp.out).mono ?_; rintro e w2 ⟨rfl, hb⟩; have B12 := aM (blk_below (blk_new w1 (.cells #[.slice Ao o.length co] 26)) hb); replace B10 := aM (blk_below (blk_alloc B10.out _) hb); have HB2 := aM (below_step (below_alloc HB1.out _) hb); replace HS := aM (Kd.S_below (Kd.S_alloc HS.out _) hb); have N10 := Nat.ne_of_lt L10; clear C5 C10 F10 HB1 B5; have C12 : w2.cell? ⟨w1.heap.size, 0, none⟩ = some (.slice Ao o.length co) := (blk_cell B12.out 0).trans rfl; have F12 := blk_frozen B12.out 0; have C10 : w2.cell? ⟨w.heap.size + 1, 0, none⟩ = some (.slice none 0 0) := (blk_cell B10.out 0).trans rfl; have F10 := blk_frozen B10.out 0; have L10 := blk_lt B10.out; have L12 := blk_lt B12.out; clear hb))
 refine bodyPost_ret (results_ct rfl _ _ (w.heap.size + 1) 26 #[.slice Ao o.length co] (0, 0) _ rfl (blk_put (cs := #[.slice none 0 0]) B10.out 0 _ rfl) Try.underlying26 rfl (by kernel_rfl)) rfl ?_
 exact ⟨_, rfl, Kd.S_lower (S_box HS.out (by omega) _) (by omega), below_set HB2.out (by omega)⟩

 }
/-! ### spec_l1In: function 81 -/
def spec_l1In.f (a0 : Int) (a1 : Int) (a2 : Int) : Option (Bool) := if a0 ≥ a1 then (some (decide (a0 ≤ a2))) else (some false)
set_option maxHeartbeats 8000000 in
set_option maxRecDepth 100000 in
theorem spec_l1In.calls (a0 : Int) (a1 : Int) (a2 : Int) (r : Bool) (w : World) (h : spec_l1In.f a0 a1 a2 = some r) :
  Calls Try.prog 81 #[.int .i64 a0, .int .i64 a1, .int .i64 a2] w fun e w' => e = .returned (.bool r) ∧ Drawn0 w w' := by
 have H : (if a0 ≥ a1 then (some (decide (a0 ≤ a2))) else (some false)) = some r := h
 clear h
 by_cases c4 : a0 ≥ a1
 {
 rw [if_pos c4] at H
 have c4b0 := decide_eq_true c4
 clear c4
 obtain rfl := Option.some.inj H
 simp only [Option.some.injEq, Prod.mk.injEq] at H
 obtain ⟨rfl⟩ := H
 go_enter Try.func81, Try.ntmps81
 go_wp2
 go_ret
 exact ⟨by first | rfl | (simp; done) | (simp [*]; done), by repeat (first | exact Drawn0.refl _ | apply Drawn0.step)⟩
 }
 {
 rw [if_neg c4] at H
 have c4b0 := decide_eq_false c4
 clear c4
 obtain rfl := Option.some.inj H
 simp only [Option.some.injEq, Prod.mk.injEq] at H
 obtain ⟨rfl⟩ := H
 go_enter Try.func81, Try.ntmps81
 go_wp2
 go_ret
 exact ⟨by first | rfl | (simp; done) | (simp [*]; done), by repeat (first | exact Drawn0.refl _ | apply Drawn0.step)⟩

 }
end Go.Proofs.Yteajnkondkfmgaa.PFnTaken
