-- Made by a program of this session out of the translation. Lean checks it.
import Derived.Test.YteajnkondkfmgaaPFnExactPicksx0
import Derived.Test.YteajnkondkfmgaaPFnExactPicksx3
import Derived.Test.YteajnkondkfmgaaPFnExactPicksx6
namespace Go.Proofs.Yteajnkondkfmgaa.PFnExactPicks
open Go.RowKit Go.Proofs.YteajnkondkfmgaaW.PrintWords Go.Proofs.YteajnkondkfmgaaW.PrintLast Go.Proofs.YteajnkondkfmgaaW.PrintMore
attribute [local go_sem] max2_int min2_int max_two min_two max_three min_three max_four min_four   -- for this text's walks alone
set_option linter.unusedVariables false
set_option linter.unusedSimpArgs false

/-! ### impl_held: function 60 -/
def impl_held.f (k : Nat) (l : List S79) (a1 a2 a3 a4 : Int) : Option (List S79 × Int) :=
 (impl_copyStock.f k l).bind fun o => (impl_place.f k l a1 a2 a3).bind fun q =>
  if q.2 = 0 then (if 0 ≤ q.1 then (if q.1 < (o.length : Int) then
   (impl_stackAt.f k (rd_T79 o q.1).f0 (rd_T79 o q.1).f1 (rd_T79 o q.1).f2 a2).bind fun s =>
    if s.2 = true then (if 0 ≤ s.1 then (if s.1 < ((rd_T79 o q.1).f2.length : Int) then
     (impl_in.f (wrap64 ((rd_T72 (rd_T79 o q.1).f2 s.1).f2 + a4)) 0 (rd_T72 (rd_T79 o q.1).f2 s.1).f1).bind fun b =>
      if b = true then some (o.set q.1.toNat ⟨(rd_T79 o q.1).f0, (rd_T79 o q.1).f1, (rd_T79 o q.1).f2.set s.1.toNat ⟨(rd_T72 (rd_T79 o q.1).f2 s.1).f0, (rd_T72 (rd_T79 o q.1).f2 s.1).f1, wrap64 ((rd_T72 (rd_T79 o q.1).f2 s.1).f2 + a4)⟩⟩, 0) else some (o, 3)
     else none) else none) else some (o, 3)
   else none) else none) else some (o, q.2)
theorem impl_held.mono : ∀ l a1 a2 a3 a4 k, LeO (impl_held.f k l a1 a2 a3 a4) (impl_held.f (k + 1) l a1 a2 a3 a4) := by
 intro l a1 a2 a3 a4 k
 unfold impl_held.f
 repeat' first
  | (with_reducible first | exact impl_copyStock.mono _ _ | exact impl_place.mono _ _ _ _ _ | exact impl_stackAt.mono _ _ _ _ _ | exact LeO.refl _ | exact LeO.none _ | refine LeO.ite ?_ ?_ | refine LeO.bind ?_ (fun _ => ?_))
def impl_held.T9 : Bool × List (List Nat × List Nat) := (true, [([], []), ([0], [0]), ([1], [1]), ([2], [2]), ([], []), ([3, 4], [3, 4]), ([], []), ([6], [6]), ([7], [7]), ([8], [8]), ([5, 9], [5, 9]), ([10], [10])])
def impl_held.B9 : List Nat := [0, 1, 3, 7, 0, 31, 0, 64, 192, 448, 1023, 2047]
theorem impl_held.tab9 : rtab .any (opsOf Try.f60 9) = impl_held.T9 := by kernel_rfl
theorem impl_held.bits9 : waitsOk impl_held.T9.2 impl_held.B9 = true := by kernel_rfl
set_option maxHeartbeats 8000000 in
set_option maxRecDepth 100000 in
theorem impl_held.calls (k : Nat) (A0 : Option Addr) (c0 : Nat) (l : List S79) (a1 a2 a3 a4 : Int) (r1 : List S79) (r2 : Int) (w : World) (hr0 : Kd.C k79 w A0 l.length l) (hc0 : l.length ≤ c0) (h : impl_held.f k l a1 a2 a3 a4 = some (r1, r2)) :
  Calls Try.prog 60 #[.agg #[.slice A0 l.length c0], .int .i64 a1, .int .i64 a2, .int .i64 a3, .int .i64 a4] w fun e w' => ∃ v0_ : Value, e = .returned (.tuple #[.agg #[v0_], .int .i64 r2]) ∧ Kd.S k79 79 w' w.heap.size (fun _ => True) v0_ r1 ∧ Below w.heap.size w w' := by
 have hu26 := Try.underlying26
 have hu79 := Try.underlying79
 have hu72 := Try.underlying72
 have hu24 := Try.underlying24
 have hu77 := Try.underlying77
 unfold impl_held.f at h
 obtain ⟨o, ho, h⟩ := Option.bind_eq_some_iff.mp h
 obtain ⟨⟨i, code⟩, hp, h⟩ := Option.bind_eq_some_iff.mp h
 have Ho := aM ho
 have Hp := aM hp
 have HR := aM hr0
 have HC := aM hc0
 clear ho hp hr0 hc0
 dsimp only at h
 by_cases c1 : code = 0
 {
 subst c1
 rw [if_pos rfl] at h
 by_cases ci0 : 0 ≤ i
 {
 rw [if_pos ci0] at h
 by_cases ci1 : i < (o.length : Int)
 {
 rw [if_pos ci1] at h
 obtain ⟨⟨j, ok⟩, hs, h⟩ := Option.bind_eq_some_iff.mp h
 have Hs := aM hs
 clear hs
 dsimp only at h
 cases ok with
 | false =>
  rw [if_neg (by decide)] at h
  obtain ⟨rfl, rfl⟩ : o = r1 ∧ 3 = r2 := by simpa using h
  clear h
  go_enter Try.func60, Try.ntmps60
  go_wp2_with (first
   | (go_at_call 65; refine (impl_copyStock.calls k A0 c0 l o _ (Kd.C_alloc (Kd.C_alloc HR.out _) _) HC.out Ho.out).mono ?_; rintro e w1 ⟨v0, rfl, hS, hb⟩; obtain ⟨Ao, co, rfl⟩ := Kd.S_slice hS; have B5 := aM (blk_below (blk_alloc (blk_new w (.cells #[.slice A0 l.length c0] 26)) (.cells #[.slice none 0 0] 26)) hb); have B10 := aM (blk_below (blk_new1 w (.cells #[.slice A0 l.length c0] 26) (.cells #[.slice none 0 0] 26)) hb); have HB1 := aM (below_step (below_alloc (below_alloc (Below.refl w.heap.size w) _) _) hb); have HS := aM (show Kd.S k79 79 w1 (w.heap.size + 2) (fun _ => True) (.slice Ao o.length co) o by rw [show w.heap.size + 2 = ((w.alloc (.cells #[.slice A0 l.length c0] 26)).alloc (.cells #[.slice none 0 0] 26)).heap.size by simp]; exact hS); have HGW := aM (Kd.S_lt hS); have C5 : w1.cell? ⟨w.heap.size, 0, none⟩ = some (.slice A0 l.length c0) := (blk_cell B5.out 0).trans rfl; have C10 : w1.cell? ⟨w.heap.size + 1, 0, none⟩ = some (.slice none 0 0) := (blk_cell B10.out 0).trans rfl; have F10 := blk_frozen B10.out 0; have L5 := blk_lt B5.out; have L10 := blk_lt B10.out; clear hb hS)
   | (go_at_call 68; refine (impl_place.calls k A0 c0 l a1 a2 a3 i 0 _ (Kd.C_below HR.out (below_alloc HB1.out _)) HC.out Hp.out).mono ?_; rintro e w2 ⟨rfl, hb⟩; have B12 := aM (blk_below (blk_new w1 (.cells #[.slice Ao o.length co] 26)) hb); replace B10 := aM (blk_below (blk_alloc B10.out _) hb); have HB2 := aM (below_step (below_alloc HB1.out _) hb); replace HS := aM (Kd.S_below (Kd.S_alloc HS.out _) hb); have N10 := Nat.ne_of_lt L10; clear C5 C10 F10 HB1 B5; have C12 : w2.cell? ⟨w1.heap.size, 0, none⟩ = some (.slice Ao o.length co) := (blk_cell B12.out 0).trans rfl; have F12 := blk_frozen B12.out 0; have C10 : w2.cell? ⟨w.heap.size + 1, 0, none⟩ = some (.slice none 0 0) := (blk_cell B10.out 0).trans rfl; have F10 := blk_frozen B10.out 0; have L10 := blk_lt B10.out; have L12 := blk_lt B12.out; clear hb; have HS' := HS.out; obtain ⟨g, oki, A2, c2, e, hgb, hgl, x0, x1, x2, f0, f1, f2, hR2, hoki, hn, hH⟩ := S79_at HS' i ci0 ci1; cases e; have HR2 := aM (Kd.R_reads' hR2); have HRs := aM hR2; have HGB := aM hgb; clear hR2 hoki hH hgb HS')
   | (go_at_call 67; refine (impl_stackAt.calls k (rd_T79 o i).f0 (rd_T79 o i).f1 A2 c2 (rd_T79 o i).f2 a2 j false _ HR2.out.2.2 HR2.out.2.1 Hs.out).mono ?_; rintro e w3 ⟨rfl, hb⟩; replace B12 := aM (blk_below B12.out hb); replace B10 := aM (blk_below B10.out hb); have HB3 := aM (below_step HB2.out hb); replace HS := aM (Kd.S_below HS.out hb); replace HRs := aM (Kd.R_below HRs.out hb); replace x0 := pw_cell_below hb x0; replace x1 := pw_cell_below hb x1; replace x2 := pw_cell_below hb x2; have HGL := aM (Nat.lt_of_lt_of_le hgl (below_size hb)); clear C12 F12 C10 F10 f0 f1 f2; have C12 : w3.cell? ⟨w1.heap.size, 0, none⟩ = some (.slice (some ⟨g, 0, none⟩) o.length co) := (blk_cell B12.out 0).trans rfl; have C10 : w3.cell? ⟨w.heap.size + 1, 0, none⟩ = some (.slice none 0 0) := (blk_cell B10.out 0).trans rfl; have F10 := blk_frozen B10.out 0; replace L10 := blk_lt B10.out; replace L12 := blk_lt B12.out; clear hb HB2))
  refine bodyPost_ret (results_ct rfl _ _ (w.heap.size + 1) 26 #[.slice (some ⟨g, 0, none⟩) o.length co] (0, 0) _ rfl (blk_put (cs := #[.slice none 0 0]) B10.out 0 _ rfl) Try.underlying26 rfl (by kernel_rfl)) rfl ?_
  exact ⟨_, rfl, Kd.S_lower (S_box HS.out (by omega) _) (by omega), below_set HB3.out (by omega)⟩
 | true =>
  rw [if_pos rfl] at h
  by_cases cj0 : 0 ≤ j
  {
  rw [if_pos cj0] at h
  by_cases cj1 : j < ((rd_T79 o i).f2.length : Int)
  {
  rw [if_pos cj1] at h
  obtain ⟨b, hb', h⟩ := Option.bind_eq_some_iff.mp h
  have Hb := aM hb'
  clear hb'
  cases b with
  | false =>
   rw [if_neg (by decide)] at h
   have H := aM h
   clear h
   go_enter Try.func60, Try.ntmps60
   go_wp2_with (first
    | (go_at_call 65; refine (impl_copyStock.calls k A0 c0 l o _ (Kd.C_alloc (Kd.C_alloc HR.out _) _) HC.out Ho.out).mono ?_; rintro e w1 ⟨v0, rfl, hS, hb⟩; obtain ⟨Ao, co, rfl⟩ := Kd.S_slice hS; have B5 := aM (blk_below (blk_alloc (blk_new w (.cells #[.slice A0 l.length c0] 26)) (.cells #[.slice none 0 0] 26)) hb); have B10 := aM (blk_below (blk_new1 w (.cells #[.slice A0 l.length c0] 26) (.cells #[.slice none 0 0] 26)) hb); have HB1 := aM (below_step (below_alloc (below_alloc (Below.refl w.heap.size w) _) _) hb); have HS := aM (show Kd.S k79 79 w1 (w.heap.size + 2) (fun _ => True) (.slice Ao o.length co) o by rw [show w.heap.size + 2 = ((w.alloc (.cells #[.slice A0 l.length c0] 26)).alloc (.cells #[.slice none 0 0] 26)).heap.size by simp]; exact hS); have HGW := aM (Kd.S_lt hS); have C5 : w1.cell? ⟨w.heap.size, 0, none⟩ = some (.slice A0 l.length c0) := (blk_cell B5.out 0).trans rfl; have C10 : w1.cell? ⟨w.heap.size + 1, 0, none⟩ = some (.slice none 0 0) := (blk_cell B10.out 0).trans rfl; have F10 := blk_frozen B10.out 0; have L5 := blk_lt B5.out; have L10 := blk_lt B10.out; clear hb hS)
    | (go_at_call 68; refine (impl_place.calls k A0 c0 l a1 a2 a3 i 0 _ (Kd.C_below HR.out (below_alloc HB1.out _)) HC.out Hp.out).mono ?_; rintro e w2 ⟨rfl, hb⟩; have B12 := aM (blk_below (blk_new w1 (.cells #[.slice Ao o.length co] 26)) hb); replace B10 := aM (blk_below (blk_alloc B10.out _) hb); have HB2 := aM (below_step (below_alloc HB1.out _) hb); replace HS := aM (Kd.S_below (Kd.S_alloc HS.out _) hb); have N10 := Nat.ne_of_lt L10; clear C5 C10 F10 HB1 B5; have C12 : w2.cell? ⟨w1.heap.size, 0, none⟩ = some (.slice Ao o.length co) := (blk_cell B12.out 0).trans rfl; have F12 := blk_frozen B12.out 0; have C10 : w2.cell? ⟨w.heap.size + 1, 0, none⟩ = some (.slice none 0 0) := (blk_cell B10.out 0).trans rfl; have F10 := blk_frozen B10.out 0; have L10 := blk_lt B10.out; have L12 := blk_lt B12.out; clear hb; have HS' := HS.out; obtain ⟨g, oki, A2, c2, e, hgb, hgl, x0, x1, x2, f0, f1, f2, hR2, hoki, hn, hH⟩ := S79_at HS' i ci0 ci1; cases e; have HR2 := aM (Kd.R_reads' hR2); have HRs := aM hR2; have HGB := aM hgb; clear hR2 hoki hH hgb HS')
    | (go_at_call 67; refine (impl_stackAt.calls k (rd_T79 o i).f0 (rd_T79 o i).f1 A2 c2 (rd_T79 o i).f2 a2 j true _ HR2.out.2.2 HR2.out.2.1 Hs.out).mono ?_; rintro e w3 ⟨rfl, hb⟩; replace B12 := aM (blk_below B12.out hb); replace B10 := aM (blk_below B10.out hb); have HB3 := aM (below_step HB2.out hb); replace HS := aM (Kd.S_below HS.out hb); replace HRs := aM (Kd.R_below HRs.out hb); replace x0 := pw_cell_below hb x0; replace x1 := pw_cell_below hb x1; replace x2 := pw_cell_below hb x2; have HGL := aM (Nat.lt_of_lt_of_le hgl (below_size hb)); clear C12 F12 C10 F10 f0 f1 f2; have C12 : w3.cell? ⟨w1.heap.size, 0, none⟩ = some (.slice (some ⟨g, 0, none⟩) o.length co) := (blk_cell B12.out 0).trans rfl; have C10 : w3.cell? ⟨w.heap.size + 1, 0, none⟩ = some (.slice none 0 0) := (blk_cell B10.out 0).trans rfl; have F10 := blk_frozen B10.out 0; replace L10 := blk_lt B10.out; replace L12 := blk_lt B12.out; clear hb HB2; have HRs' := HRs.out; obtain ⟨g2, e, hgb2, hgl2, hok2, hn2, y0, y1, y2, z0, z1, z2, hput1, hput2⟩ := R72_at HRs' j cj0 cj1; cases e; clear hput1 hput2 HRs'; have HG2 := aM hgb2; clear hok2 hgb2))
   refine start_ (n := 12) (S := fun w' => w'.cell? ⟨g2, j.toNat * 3 + 1, none⟩ = some (.int .i64 (rd_T72 (rd_T79 o i).f2 j).f1) ∧ w'.cell? ⟨g2, j.toNat * 3 + 2, none⟩ = some (.int .i64 (rd_T72 (rd_T79 o i).f2 j).f2)) (ds := []) #[false, false, false, false, false, false, false, false, false, false, false, false] (by kernel_rfl) rfl rfl ⟨y1, y2⟩ (fun hHeld => ?_); refine with_tabW impl_held.tab9 impl_held.bits9 (fun HT_ HW_ => ?_)
   refine pI_ 0 53 (bqz 12 1) ?_
   refine pI_ 1 54 (bqz 12 3) ?_
   refine pI_ 2 55 (bqz 12 7) ?_
   refine pI_ 4 57 (bqz 12 23) ?_
   refine pI_ 6 59 (bqz 12 87) ?_
   refine pI_ 7 60 (bqz 12 215) ?_
   refine pI_ 8 61 (bqz 12 471) ?_
   refine tI2_ 3 56 (bqz 12 479) ?_
   refine pI_ 5 58 (bqz 12 511) ?_
   refine tI2_ 9 62 (bqz 12 1023) ?_
   refine one_ (i := 10) (N := some 63) (bqz 12 2047) rfl rfl qzc (by decide) (fun K hK => ?_)
   refine goes_ Try.func64 (by kernel_rfl) rfl #[.int .i64 (wrap64 ((rd_T72 (rd_T79 o i).f2 j).f2 + a4)), .int .i64 0, .int .i64 (rd_T72 (rd_T79 o i).f2 j).f1] (by rfl) rfl rfl qz67 ?_
   refine (impl_in.calls _ _ _ false _ Hb.out).mono ?_
   rintro e w' ⟨rfl, ⟨nd, rfl⟩⟩
   refine ⟨_, rfl, ?_⟩
   refine hK.out _ _ hHeld (fun hHeld => ?_)
   clear hK K
   refine norm_ (a' := ?_) ?_ ?_
   rotate_left
   {
   show Act.put _ (some 63) _ = _
   simp only [qzs]
   rfl
   }
   refine pI_ 11 64 (bqz 12 4095) ?_
   refine done_ (done_of HT_.out (by kernel_rfl)) ?_
   go_wp2
   obtain ⟨rfl, rfl⟩ : o = r1 ∧ 3 = r2 := by simpa using H.out
   refine bodyPost_ret (results_ct rfl _ _ (w.heap.size + 1) 26 #[.slice (some ⟨g, 0, none⟩) o.length co] (0, 0) _ rfl (blk_put (cs := #[.slice none 0 0]) (blk_drewN B10.out _) 0 _ rfl) Try.underlying26 rfl (by kernel_rfl)) rfl ?_
   exact ⟨_, rfl, Kd.S_lower (S_box (Kd.S_drewN HS.out _) (by omega) _) (by omega), below_set (pw_below_drewN HB3.out _) (by omega)⟩
  | true =>
   rw [if_pos rfl] at h
   have H := aM h
   clear h
   go_enter Try.func60, Try.ntmps60
   go_wp2_with (first
    | (go_at_call 65; refine (impl_copyStock.calls k A0 c0 l o _ (Kd.C_alloc (Kd.C_alloc HR.out _) _) HC.out Ho.out).mono ?_; rintro e w1 ⟨v0, rfl, hS, hb⟩; obtain ⟨Ao, co, rfl⟩ := Kd.S_slice hS; have B5 := aM (blk_below (blk_alloc (blk_new w (.cells #[.slice A0 l.length c0] 26)) (.cells #[.slice none 0 0] 26)) hb); have B10 := aM (blk_below (blk_new1 w (.cells #[.slice A0 l.length c0] 26) (.cells #[.slice none 0 0] 26)) hb); have HB1 := aM (below_step (below_alloc (below_alloc (Below.refl w.heap.size w) _) _) hb); have HS := aM (show Kd.S k79 79 w1 (w.heap.size + 2) (fun _ => True) (.slice Ao o.length co) o by rw [show w.heap.size + 2 = ((w.alloc (.cells #[.slice A0 l.length c0] 26)).alloc (.cells #[.slice none 0 0] 26)).heap.size by simp]; exact hS); have HGW := aM (Kd.S_lt hS); have C5 : w1.cell? ⟨w.heap.size, 0, none⟩ = some (.slice A0 l.length c0) := (blk_cell B5.out 0).trans rfl; have C10 : w1.cell? ⟨w.heap.size + 1, 0, none⟩ = some (.slice none 0 0) := (blk_cell B10.out 0).trans rfl; have F10 := blk_frozen B10.out 0; have L5 := blk_lt B5.out; have L10 := blk_lt B10.out; clear hb hS)
    | (go_at_call 68; refine (impl_place.calls k A0 c0 l a1 a2 a3 i 0 _ (Kd.C_below HR.out (below_alloc HB1.out _)) HC.out Hp.out).mono ?_; rintro e w2 ⟨rfl, hb⟩; have B12 := aM (blk_below (blk_new w1 (.cells #[.slice Ao o.length co] 26)) hb); replace B10 := aM (blk_below (blk_alloc B10.out _) hb); have HB2 := aM (below_step (below_alloc HB1.out _) hb); replace HS := aM (Kd.S_below (Kd.S_alloc HS.out _) hb); have N10 := Nat.ne_of_lt L10; clear C5 C10 F10 HB1 B5; have C12 : w2.cell? ⟨w1.heap.size, 0, none⟩ = some (.slice Ao o.length co) := (blk_cell B12.out 0).trans rfl; have F12 := blk_frozen B12.out 0; have C10 : w2.cell? ⟨w.heap.size + 1, 0, none⟩ = some (.slice none 0 0) := (blk_cell B10.out 0).trans rfl; have F10 := blk_frozen B10.out 0; have L10 := blk_lt B10.out; have L12 := blk_lt B12.out; clear hb; have HS' := HS.out; obtain ⟨g, oki, A2, c2, e, hgb, hgl, x0, x1, x2, f0, f1, f2, hR2, hoki, hn, hH⟩ := S79_at HS' i ci0 ci1; cases e; have HR2 := aM (Kd.R_reads' hR2); have HRs := aM hR2; have HGB := aM hgb; clear hR2 hoki hH hgb HS')
    | (go_at_call 67; refine (impl_stackAt.calls k (rd_T79 o i).f0 (rd_T79 o i).f1 A2 c2 (rd_T79 o i).f2 a2 j true _ HR2.out.2.2 HR2.out.2.1 Hs.out).mono ?_; rintro e w3 ⟨rfl, hb⟩; replace B12 := aM (blk_below B12.out hb); replace B10 := aM (blk_below B10.out hb); have HB3 := aM (below_step HB2.out hb); replace HS := aM (Kd.S_below HS.out hb); replace HRs := aM (Kd.R_below HRs.out hb); replace x0 := pw_cell_below hb x0; replace x1 := pw_cell_below hb x1; replace x2 := pw_cell_below hb x2; have HGL := aM (Nat.lt_of_lt_of_le hgl (below_size hb)); clear C12 F12 C10 F10 f0 f1 f2; have C12 : w3.cell? ⟨w1.heap.size, 0, none⟩ = some (.slice (some ⟨g, 0, none⟩) o.length co) := (blk_cell B12.out 0).trans rfl; have C10 : w3.cell? ⟨w.heap.size + 1, 0, none⟩ = some (.slice none 0 0) := (blk_cell B10.out 0).trans rfl; have F10 := blk_frozen B10.out 0; replace L10 := blk_lt B10.out; replace L12 := blk_lt B12.out; clear hb HB2; have HRs' := HRs.out; obtain ⟨g2, e, hgb2, hgl2, hok2, hn2, y0, y1, y2, z0, z1, z2, hput1, hput2⟩ := R72_at HRs' j cj0 cj1; cases e; clear hput1 hput2 HRs'; have HG2 := aM hgb2; clear hok2 hgb2))
   refine start_ (n := 12) (S := fun w' => w'.cell? ⟨g2, j.toNat * 3 + 1, none⟩ = some (.int .i64 (rd_T72 (rd_T79 o i).f2 j).f1) ∧ w'.cell? ⟨g2, j.toNat * 3 + 2, none⟩ = some (.int .i64 (rd_T72 (rd_T79 o i).f2 j).f2)) (ds := []) #[false, false, false, false, false, false, false, false, false, false, false, false] (by kernel_rfl) rfl rfl ⟨y1, y2⟩ (fun hHeld => ?_); refine with_tabW impl_held.tab9 impl_held.bits9 (fun HT_ HW_ => ?_)
   refine pI_ 0 53 (bqz 12 1) ?_
   refine pI_ 1 54 (bqz 12 3) ?_
   refine pI_ 2 55 (bqz 12 7) ?_
   refine pI_ 4 57 (bqz 12 23) ?_
   refine pI_ 6 59 (bqz 12 87) ?_
   refine pI_ 7 60 (bqz 12 215) ?_
   refine pI_ 8 61 (bqz 12 471) ?_
   refine tI2_ 3 56 (bqz 12 479) ?_
   refine pI_ 5 58 (bqz 12 511) ?_
   refine tI2_ 9 62 (bqz 12 1023) ?_
   refine one_ (i := 10) (N := some 63) (bqz 12 2047) rfl rfl qzc (by decide) (fun K hK => ?_)
   refine goes_ Try.func64 (by kernel_rfl) rfl #[.int .i64 (wrap64 ((rd_T72 (rd_T79 o i).f2 j).f2 + a4)), .int .i64 0, .int .i64 (rd_T72 (rd_T79 o i).f2 j).f1] (by rfl) rfl rfl qz67 ?_
   refine (impl_in.calls _ _ _ true _ Hb.out).mono ?_
   rintro e w' ⟨rfl, ⟨nd, rfl⟩⟩
   refine ⟨_, rfl, ?_⟩
   refine hK.out _ _ hHeld (fun hHeld => ?_)
   clear hK K
   refine norm_ (a' := ?_) ?_ ?_
   rotate_left
   {
   show Act.put _ (some 63) _ = _
   simp only [qzs]
   rfl
   }
   refine pI_ 11 64 (bqz 12 4095) ?_
   refine done_ (done_of HT_.out (by kernel_rfl)) ?_
   go_wp2
   have hP := (S79_put (Kd.S_drewN HS.out (1 + nd)) i j ci0 ci1 cj0 cj1 (c2 := c2) (g2 := g2) x2 (wrap64 ((rd_T72 (rd_T79 o i).f2 j).f2 + a4))).2
   have hG := HG2.out
   obtain ⟨rfl, rfl⟩ : _ = r1 ∧ _ = r2 := by simpa using H.out
   refine bodyPost_ret (results_ct rfl _ _ (w.heap.size + 1) 26 #[.slice (some ⟨g, 0, none⟩) o.length co] (0, 0) _ rfl (blk_put (cs := #[.slice none 0 0]) (blk_far (blk_drewN B10.out _) (by show w.heap.size + 1 ≠ g2; omega) _) 0 _ rfl) Try.underlying26 rfl (by kernel_rfl)) rfl ?_
   exact ⟨_, rfl, Kd.S_lower (S_box hP.1.1 (by omega) _) (by omega), below_set (below_set (pw_below_drewN HB3.out _) (by omega)) (by omega)⟩
  }
  {
  rw [if_neg cj1] at h; cases h
  }
  }
  {
  rw [if_neg cj0] at h; cases h
  }
 }
 {
 rw [if_neg ci1] at h; cases h
 }
 }
 {
 rw [if_neg ci0] at h; cases h
 }
 }
 {
 rw [if_neg c1] at h
 obtain ⟨rfl, rfl⟩ : o = r1 ∧ code = r2 := by simpa using h
 have c1b : (code != 0) = true := by simpa using c1
 clear h c1
 go_enter Try.func60, Try.ntmps60
 go_wp2_with (first
  | (go_at_call 65; refine (impl_copyStock.calls k A0 c0 l o _ (Kd.C_alloc (Kd.C_alloc HR.out _) _) HC.out Ho.out).mono ?_; rintro e w1 ⟨v0, rfl, hS, hb⟩; obtain ⟨Ao, co, rfl⟩ := Kd.S_slice hS; have B5 := aM (blk_below (blk_alloc (blk_new w (.cells #[.slice A0 l.length c0] 26)) (.cells #[.slice none 0 0] 26)) hb); have B10 := aM (blk_below (blk_new1 w (.cells #[.slice A0 l.length c0] 26) (.cells #[.slice none 0 0] 26)) hb); have HB1 := aM (below_step (below_alloc (below_alloc (Below.refl w.heap.size w) _) _) hb); have HS := aM (show Kd.S k79 79 w1 (w.heap.size + 2) (fun _ => True) (.slice Ao o.length co) o by rw [show w.heap.size + 2 = ((w.alloc (.cells #[.slice A0 l.length c0] 26)).alloc (.cells #[.slice none 0 0] 26)).heap.size by simp]; exact hS); have HGW := aM (Kd.S_lt hS); have C5 : w1.cell? ⟨w.heap.size, 0, none⟩ = some (.slice A0 l.length c0) := (blk_cell B5.out 0).trans rfl; have C10 : w1.cell? ⟨w.heap.size + 1, 0, none⟩ = some (.slice none 0 0) := (blk_cell B10.out 0).trans rfl; have F10 := blk_frozen B10.out 0; have L5 := blk_lt B5.out; have L10 := blk_lt B10.out; clear hb hS)
  | (go_at_call 68; refine (impl_place.calls k A0 c0 l a1 a2 a3 i code _ (Kd.C_below HR.out (below_alloc HB1.out _)) HC.out Hp.out).mono ?_; rintro e w2 ⟨rfl, hb⟩; have B12 := aM (blk_below (blk_new w1 (.cells #[.slice Ao o.length co] 26)) hb); replace B10 := aM (blk_below (blk_alloc B10.out _) hb); have HB2 := aM (below_step (below_alloc HB1.out _) hb); replace HS := aM (Kd.S_below (Kd.S_alloc HS.out _) hb); have N10 := Nat.ne_of_lt L10; clear C5 C10 F10 HB1 B5; have C12 : w2.cell? ⟨w1.heap.size, 0, none⟩ = some (.slice Ao o.length co) := (blk_cell B12.out 0).trans rfl; have F12 := blk_frozen B12.out 0; have C10 : w2.cell? ⟨w.heap.size + 1, 0, none⟩ = some (.slice none 0 0) := (blk_cell B10.out 0).trans rfl; have F10 := blk_frozen B10.out 0; have L10 := blk_lt B10.out; have L12 := blk_lt B12.out; clear hb))
 refine bodyPost_ret (results_ct rfl _ _ (w.heap.size + 1) 26 #[.slice Ao o.length co] (0, 0) _ rfl (blk_put (cs := #[.slice none 0 0]) B10.out 0 _ rfl) Try.underlying26 rfl (by kernel_rfl)) rfl ?_
 exact ⟨_, rfl, Kd.S_lower (S_box HS.out (by omega) _) (by omega), below_set HB2.out (by omega)⟩

 }
/-! ### impl_Hold: function 17 -/
def impl_Hold.f (k : Nat) (l0_0 : List (S79)) (a1 : Int) (a2 : Int) (a3 : Int) : Option ((List (S79)) × Int) := (impl_held.f k l0_0 a1 a2 a3 a3).bind fun bt201 => (some (bt201.1, bt201.2))
theorem impl_Hold.mono : ∀ a0 a1 a2 a3 k, LeO (impl_Hold.f k a0 a1 a2 a3) (impl_Hold.f (k + 1) a0 a1 a2 a3) := by
 intro a0 a1 a2 a3 k
 unfold impl_Hold.f
 repeat' first
  | (with_reducible first | exact impl_held.mono _ _ _ _ _ _ | exact LeO.refl _ | exact LeO.none _ | refine LeO.ite ?_ ?_ | refine LeO.bind ?_ (fun _ => ?_))
  | exact impl_held.mono _ _ _ _ _ _
  | exact LeO.none _
  | refine LeO.ite ?_ ?_
  | refine LeO.bind ?_ (fun _ => ?_)
set_option maxHeartbeats 8000000 in
set_option maxRecDepth 100000 in
theorem impl_Hold.calls (k : Nat) (A0_0 : Option Addr) (c0_0 : Nat) (l0_0 : List (S79)) (a1 : Int) (a2 : Int) (a3 : Int) (r1 : List (S79)) (r2 : Int) (w : World) (hr0_0 : Kd.C k79 w A0_0 l0_0.length l0_0) (hc0_0 : l0_0.length ≤ c0_0) (h : impl_Hold.f k l0_0 a1 a2 a3 = some (r1, r2)) :
  Calls Try.prog 17 #[.agg #[.slice A0_0 l0_0.length c0_0], .int .i64 a1, .int .i64 a2, .int .i64 a3] w fun e w' => ∃ v0_ : Value, e = .returned (.tuple #[.agg #[v0_], .int .i64 r2]) ∧ Kd.S k79 79 w' w.heap.size (fun _ => True) v0_ r1 ∧ Below w.heap.size w w' := by
 have hu26 := Try.underlying26
 have HR0_0 := aM hr0_0
 have HC0_0 := aM hc0_0
 clear hr0_0 hc0_0
 have HB := aM (Below.refl w.heap.size w)
 have H : ((impl_held.f k l0_0 a1 a2 a3 a3).bind fun bt201 => (some (bt201.1, bt201.2))) = some (r1, r2) := h
 clear h
 replace H := Option.bind_eq_some_iff.mp H
 obtain ⟨⟨t201, t204⟩, A50, H⟩ := H
 replace H : (some (t201, t204)) = some (r1, r2) := H
 have A5 := aM A50
 clear A50
 simp only [Option.some.injEq, Prod.mk.injEq] at H
 obtain ⟨rfl, rfl⟩ := H
 go_enter Try.func17, Try.ntmps17
 go_wp2_with (first | ((with_reducible refine gate_dst (N := 4) rfl ?_); refine bx_ 4 #[.slice A0_0 l0_0.length c0_0] 26 ?_; intro gb199 hg w6 hbox hb; have n0_ := aM (below_step qz1 hb); have n1_ := aM (hbox); have n2_ := aM ((by rw [hg]; exact (below_size qz1) : w.heap.size ≤ gb199)); have n3_ := aM ((by rw [hg]; exact (below_size qz1) : w.heap.size ≤ gb199)); clear HB; have HB := n0_; have BK199 := n1_; have GW199 := n2_; have GE199 := n3_; clear n0_ n1_ n2_ n3_; clear hb hbox hg) | ((with_reducible refine gate_dst (N := 8) rfl ?_); refine bx_ 8 #[.slice none 0 0] 26 ?_; intro gb200 hg w7 hbox hb; have n0_ := aM (blk_below (bk_ BK199.out) hb); have n1_ := aM (below_step qz58 hb); have n2_ := aM (hbox); have n3_ := aM ((by rw [hg]; exact (below_size qz58) : w.heap.size ≤ gb200)); have n4_ := aM ((by rw [hg]; exact (below_size qz58) : w.heap.size ≤ gb200)); have n5_ := aM ((by rw [hg]; exact Nat.ne_of_lt (blk_lt (bk_ BK199.out)) : gb199 ≠ gb200)); have n6_ := aM ((by rw [hg]; exact Nat.ne_of_gt (blk_lt (bk_ BK199.out)) : gb200 ≠ gb199)); clear BK199 HB; have BK199 := n0_; have HB := n1_; have BK200 := n2_; have GW200 := n3_; have GE200 := n4_; have NB199_200 := n5_; have NB200_199 := n6_; clear n0_ n1_ n2_ n3_ n4_ n5_ n6_; clear hb hbox hg; have hnb8 := NB199_200.out; have hnc8 := NB200_199.out; have hcz9_0 := bc0_ BK199.out; have hfz9_0 := blk_frozen BK199.out 0) | ((with_reducible refine gate_callee (f := 60) rfl ?_); refine goesL_ (some 15) rfl rfl Try.func60 (by kernel_rfl) rfl #[.agg #[.slice A0_0 l0_0.length c0_0], .int .i64 a1, .int .i64 a2, .int .i64 a3, .int .i64 a3] rfl qz3 ?_; (with_reducible refine (impl_held.calls k _ _ l0_0 a1 a2 a3 a3 t201 t204 _ ?side1 ?side2 A5.out).mono ?_); (case side1 => exact qz12); (case side2 => exact HC0_0.out); rintro e w10 ⟨v202, rfl, ho0, hb⟩; refine ⟨_, rfl, ?_⟩; have n0_ := aM (Kd.S_lower ho0 (below_size qz71)); have n1_ := aM (blk_below (bk_ BK199.out) hb); have n2_ := aM (blk_below (bk_ BK200.out) hb); have n3_ := aM (below_step qz71 hb); clear BK199 BK200 HB; have HO203 := n0_; have BK199 := n1_; have BK200 := n2_; have HB := n3_; clear n0_ n1_ n2_ n3_; (try clear hb); (try clear hb2); (try clear hk); (try clear hi); (try clear ho0); obtain ⟨Ao11, co11, eo11⟩ := Kd.S_slice HO203.out; subst eo11; have hcz12_0 := bc0_ BK200.out; have hfz12_0 := blk_frozen BK200.out 0))
 refine bodyPost_ret (results_ct rfl _ _ gb200 26 #[.slice Ao11 t201.length co11] (0, 0) _ rfl (by (with_reducible repeat (first | refine blk_drewN ?_ _ | refine blk_drew ?_ | refine blk_alloc ?_ _)); refine blk_put (cs := #[.slice none 0 0]) ?_ 0 _ rfl; exact bk_ BK200.out) Try.underlying26 rfl (by kernel_rfl)) rfl ?_
 exact ⟨_, by first | rfl | (simp [errW_none, errW_some] <;> rfl) | (simp [*, errW_none, errW_some] <;> rfl), by (with_reducible repeat (first | apply Kd.S_alloc | apply Kd.S_drewN | apply Kd.S_drew)); exact Kd.S_mono (Kd.S_far (p := ⟨gb200, 0, none⟩) (Kd.S_types HO203.out BK200.out (by decide)) (fun _ hk => hk.2) (.slice Ao11 t201.length co11)) (fun _ hk => trivial), by repeat (first | (with_reducible first | exact HB.out | apply below_alloc | apply pw_below_drewN | apply below_drew1 | refine below_set ?_ GE199.out | refine below_set ?_ GE200.out) | exact HB.out)⟩

-- NOT PRINTED: function 83 (impl_each)

/-! ### impl_HoldAll: function 39, impl.each over Hold: function 83 -/
def impl_eachHold.l0 : Nat → List S79 → List S50 → Int → List S79 → Option (List S79 × Bool)
 | 0, _, _, _, _ => none
 | k + 1, s, p, i, out => if i < (p.length : Int) then (if 0 ≤ i then ((impl_Hold.f k out (rd_T50 p i).f0 (rd_T50 p i).f1 (rd_T50 p i).f2).bind fun q => if q.2 = 0 then impl_eachHold.l0 k s p (wrap64 (i + 1)) q.1 else ((impl_copyStock.f k s).bind fun c => some (c, false))) else none) else some (out, true)
def impl_eachHold.f (k : Nat) (s : List S79) (p : List S50) : Option (List S79 × Bool) := (impl_copyStock.f k s).bind fun o => impl_eachHold.l0 k s p 0 o
theorem impl_eachHold.mono_l : ∀ k, (∀ y0 y1 y2 y3, LeO (impl_eachHold.l0 k y0 y1 y2 y3) (impl_eachHold.l0 (k + 1) y0 y1 y2 y3))
 | 0 => fun _ _ _ _ r h => by simp [impl_eachHold.l0] at h
 | k + 1 => by
  have ih0 := impl_eachHold.mono_l k
  intro y0 y1 y2 y3
  unfold impl_eachHold.l0
  repeat' first
   | (with_reducible first | exact ih0 _ _ _ _ | exact impl_Hold.mono _ _ _ _ _ | exact impl_copyStock.mono _ _ | exact LeO.refl _ | exact LeO.none _ | refine LeO.ite ?_ ?_ | refine LeO.bind ?_ (fun _ => ?_))
theorem impl_eachHold.mono : ∀ a0 a1 k, LeO (impl_eachHold.f k a0 a1) (impl_eachHold.f (k + 1) a0 a1) := by
 intro a0 a1 k
 unfold impl_eachHold.f
 exact LeO.bind (impl_copyStock.mono _ _) (fun _ => impl_eachHold.mono_l k _ _ _ _)
set_option maxHeartbeats 8000000 in
set_option maxRecDepth 100000 in
theorem impl_eachHold.calls (k : Nat) (A0_0 : Option Addr) (c0_0 : Nat) (l0_0 : List S79) (A1 : Option Addr) (c1 : Nat) (l1 : List S50) (r1 : List S79) (r2 : Bool) (w : World) (hr0_0 : Kd.C k79 w A0_0 l0_0.length l0_0) (hc0_0 : l0_0.length ≤ c0_0) (hr1 : Kd.C k50 w A1 l1.length l1) (hc1 : l1.length ≤ c1) (h : impl_eachHold.f k l0_0 l1 = some (r1, r2)) :
  Calls Try.prog 83 #[.agg #[.slice A0_0 l0_0.length c0_0], .slice A1 l1.length c1, .func (.func 17) #[] #[]] w fun e w' => ∃ v0_ : Value, e = .returned (.tuple #[.agg #[v0_], .bool r2]) ∧ Kd.S k79 79 w' w.heap.size (fun _ => True) v0_ r1 ∧ Below w.heap.size w w' := by
 have hu26 := Try.underlying26
 have hu24 := Try.underlying24
 have hu50 := Try.underlying50
 have hu43 := Try.underlying43
 unfold impl_eachHold.f at h
 obtain ⟨o, ho, h⟩ := Option.bind_eq_some_iff.mp h
 have Ho := aM ho
 have H' := aM h
 have HR := aM hr0_0
 have HC := aM hc0_0
 have HP := aM hr1
 have HPC := aM hc1
 clear ho h hr0_0 hc0_0 hr1 hc1
 go_enter Try.func83, Try.ntmps83
 go_wp2_with (first
  | (go_at_call 65; refine (impl_copyStock.calls k _ _ l0_0 o _ (Kd.C_alloc (Kd.C_alloc HR.out _) _) HC.out Ho.out).mono ?_; rintro e w1 ⟨v0, rfl, hS, hb⟩; obtain ⟨Ao, co, rfl⟩ := Kd.S_slice hS; have B3 := aM (blk_below (blk_alloc (blk_new w (.cells #[.slice A0_0 l0_0.length c0_0] 26)) (.cells #[.slice none 0 0] 26)) hb); have B6 := aM (blk_below (blk_new1 w (.cells #[.slice A0_0 l0_0.length c0_0] 26) (.cells #[.slice none 0 0] 26)) hb); have HB1 := aM (below_step (below_alloc (below_alloc (Below.refl w.heap.size w) _) _) hb); have HS := aM (show Kd.S k79 79 w1 (w.heap.size + 2) (fun k => k < w1.heap.size) (.slice Ao o.length co) o by refine Kd.S_mono (Kd.S_bound (ok := fun _ => True) ?_) (fun _ hk => hk.2.2.1); rw [show w.heap.size + 2 = ((w.alloc (.cells #[.slice A0_0 l0_0.length c0_0] 26)).alloc (.cells #[.slice none 0 0] 26)).heap.size by simp]; exact hS); have L6 := aM (blk_lt B6.out); clear hb hS))
 have hS := aM (Kd.S_mono (ok' := fun k => k ≠ w1.heap.size) (Kd.S_alloc HS.out (.cells #[.slice Ao o.length co] 26)) (fun k (hk : k < w1.heap.size) => Nat.ne_of_lt hk))
 have B8 := aM (blk_new w1 (.cells #[.slice Ao o.length co] 26))
 replace B3 := aM (blk_alloc B3.out (.cells #[.slice Ao o.length co] 26))
 replace B6 := aM (blk_alloc B6.out (.cells #[.slice Ao o.length co] 26))
 have HB2 := aM (below_alloc HB1.out (.cells #[.slice Ao o.length co] 26))
 clear HS HB1
 generalize w1.alloc (.cells #[.slice Ao o.length co] 26) = w2 at hS B3 B6 B8 HB2 ⊢
 generalize hg8 : w1.heap.size = g8 at hS B8 L6 ⊢
 clear hg8
 go_loopg [17] k (fun kq v17 w' => ∃ (x17 : Int) (out : List S79) (Ao : Option Addr) (co : Nat), v17 = .int .i64 x17 ∧ Aside0 (impl_eachHold.l0 kq l0_0 l1 x17 out = some (r1, r2)) ∧ Aside0 (kq ≤ k) ∧ Aside0 (Kd.S k79 79 w' (w.heap.size + 2) (fun k => k ≠ g8) (.slice Ao out.length co) out) ∧ Aside0 (w'.heap[w.heap.size]? = some (.cells #[.slice A0_0 l0_0.length c0_0] 26 (0, 0))) ∧ Aside0 (w'.heap[w.heap.size + 1]? = some (.cells #[.slice none 0 0] 26 (0, 0))) ∧ Aside0 (w'.heap[g8]? = some (.cells #[.slice Ao out.length co] 26 (0, 0))) ∧ Aside0 (Below w.heap.size w w'))
 case atStart => exact ⟨0, o, Ao, co, rfl, H', ⟨Nat.le_refl _⟩, hS, B3, B6, B8, HB2⟩
 case round =>
  clear H' hS B3 B6 B8 HB2
  try clear p2
  obtain ⟨x17, out, Ao, co, rfl, HA, HK1, HS, B3, B6, B8, HB⟩ := hrel
  have L6w := L6.out
  have L8 := blk_lt B8.out
  have C3 : wr.cell? ⟨w.heap.size, 0, none⟩ = some (.slice A0_0 l0_0.length c0_0) := (blk_cell B3.out 0).trans rfl
  have C6 : wr.cell? ⟨w.heap.size + 1, 0, none⟩ = some (.slice none 0 0) := (blk_cell B6.out 0).trans rfl
  have C8 : wr.cell? ⟨g8, 0, none⟩ = some (.slice Ao out.length co) := (blk_cell B8.out 0).trans rfl
  have F6 := blk_frozen B6.out 0
  have F8 := blk_frozen B8.out 0
  have L3 := blk_lt B3.out
  have L6r := blk_lt B6.out
  have N8 : w.heap.size + 1 ≠ g8 := Nat.ne_of_lt L6w
  have N8' : g8 ≠ w.heap.size + 1 := Nat.ne_of_gt L6w
  have N83 : w.heap.size ≠ g8 := by omega
  have N83' : g8 ≠ w.heap.size := by omega
  cases gk with
  | zero => exact absurd HA.out (by simp [impl_eachHold.l0])
  | succ k1 =>
   have H := HA.out
   clear HA
   simp only [impl_eachHold.l0] at H
   by_cases c3 : x17 < (l1.length : Int)
   {
   rw [if_pos c3] at H
   by_cases c4 : 0 ≤ x17
   {
   rw [if_pos c4] at H
   obtain ⟨⟨q1, q2⟩, hq, H⟩ := Option.bind_eq_some_iff.mp H
   have HQ := aM hq
   clear hq
   dsimp only at H
   obtain ⟨adp, ep, y0, y1, y2⟩ := at_T50 HP.out x17 c4 c3
   subst ep
   replace y0 := pw_cell_below' HB.out y0
   replace y1 := pw_cell_below' HB.out y1
   replace y2 := pw_cell_below' HB.out y2
   have c3b0 := decide_eq_true c3
   have p5 := eq_true c4
   have q5 := eq_true c3
   have HRO := aM (Kd.S_reads' (Kd.S_alloc HS.out (.cells #[.int .i64 (rd_T50 l1 x17).f0, .int .i64 (rd_T50 l1 x17).f1, .int .i64 (rd_T50 l1 x17).f2] 50)))
   by_cases cq : q2 = 0
   {
   subst cq
   rw [if_pos rfl] at H
   have H' := aM H
   clear H
   go_wp2_with (first
    | (go_at_call 17; refine (impl_Hold.calls k1 _ _ out (rd_T50 l1 x17).f0 (rd_T50 l1 x17).f1 (rd_T50 l1 x17).f2 q1 0 _ HRO.out.2.2 HRO.out.2.1 HQ.out).mono ?_; rintro e w4 ⟨v0, rfl, hS, hb⟩; obtain ⟨An, cn, rfl⟩ := Kd.S_slice hS; have hU := below_step (below_alloc (Below.refl wr.heap.size wr) _) hb; replace B3 := aM (blk_below B3.out hU); replace B6 := aM (blk_below B6.out hU); replace B8 := aM (blk_below B8.out hU); replace HB := aM (below_step HB.out hU); have HS4 := aM (show Kd.S k79 79 w4 (w.heap.size + 2) (fun k => k ≠ g8) (.slice An q1.length cn) q1 from Kd.S_lower (Kd.S_mono (Kd.S_bound hS) (fun k hk => by have h2 := hk.2.1; rw [World.size_alloc] at h2; have h3 := L8; omega)) (by rw [World.size_alloc]; have h3 := L6r; omega)); replace C8 : w4.cell? ⟨g8, 0, none⟩ = some (.slice Ao out.length co) := (blk_cell B8.out 0).trans rfl; replace F8 := blk_frozen B8.out 0; have L84 := blk_lt B8.out; have N84 := Nat.ne_of_lt L84; have N84' := Nat.ne_of_gt L84; clear HS HRO hS hb hU C3 C6 F6 L8 y0 y1 y2 L3 L6r))
   go_roundg k1
   case measure => have := HK1.out; omega
   case rel => exact ⟨wrap64 (x17 + 1), q1, An, cn, rfl, H', ⟨by have := HK1.out; omega⟩, ⟨Kd.S_alloc (Kd.S_far (p := ⟨g8, 0, none⟩) HS4.out (fun _ hk => hk) _) _⟩, ⟨blk_alloc (blk_far B3.out N83 _) _⟩, ⟨blk_alloc (blk_far B6.out N8 _) _⟩, ⟨blk_alloc (blk_put (cs := #[.slice Ao out.length co]) B8.out 0 _ rfl) _⟩, ⟨below_alloc (below_set HB.out (by omega)) _⟩⟩
   }
   {
   rw [if_neg cq] at H
   obtain ⟨cc, hcc, H⟩ := Option.bind_eq_some_iff.mp H
   have HCC := aM hcc
   obtain ⟨rfl, rfl⟩ : cc = r1 ∧ false = r2 := by simpa using H
   clear hcc H
   have cqb : (q2 != 0) = true := by simpa using cq
   clear cq
   go_wp2_with (first
    | (go_at_call 17; refine (impl_Hold.calls k1 _ _ out (rd_T50 l1 x17).f0 (rd_T50 l1 x17).f1 (rd_T50 l1 x17).f2 q1 q2 _ HRO.out.2.2 HRO.out.2.1 HQ.out).mono ?_; rintro e w4 ⟨v0, rfl, hS, hb⟩; obtain ⟨An, cn, rfl⟩ := Kd.S_slice hS; have hU := below_step (below_alloc (Below.refl wr.heap.size wr) _) hb; replace B3 := aM (blk_below B3.out hU); replace B6 := aM (blk_below B6.out hU); replace HB := aM (below_step HB.out hU); have C3' : w4.cell? ⟨w.heap.size, 0, none⟩ = some (.slice A0_0 l0_0.length c0_0) := (blk_cell B3.out 0).trans rfl; have L3' := blk_lt B3.out; clear HS HRO hS hb hU C3 C6 C8 F6 F8 L8 L3 L6r B8 y0 y1 y2)
    | (go_at_call 65; refine (impl_copyStock.calls k1 _ _ l0_0 cc _ (Kd.C_below HR.out (below_alloc HB.out _)) HC.out HCC.out).mono ?_; rintro e w5 ⟨v0, rfl, hS, hb⟩; obtain ⟨Ac, cc5, rfl⟩ := Kd.S_slice hS; have hU := below_step (below_alloc (Below.refl w4.heap.size w4) _) hb; have L6q := blk_lt B6.out; replace B6 := aM (blk_below B6.out hU); replace HB := aM (below_step HB.out hU); have HS5 := aM (show Kd.S k79 79 w5 (w.heap.size + 2) (fun k => True) (.slice Ac cc.length cc5) cc from Kd.S_lower hS (by rw [World.size_alloc]; omega)); have C6' : w5.cell? ⟨w.heap.size + 1, 0, none⟩ = some (.slice none 0 0) := (blk_cell B6.out 0).trans rfl; have F6' := blk_frozen B6.out 0; clear hS hb hU C3' L3'))
   refine bodyPost_ret (results_ct rfl _ _ (w.heap.size + 1) 26 #[.slice Ac cc.length cc5] (0, 0) _ rfl (blk_put (cs := #[.slice none 0 0]) B6.out 0 _ rfl) Try.underlying26 rfl (by kernel_rfl)) rfl ?_
   exact ⟨_, rfl, Kd.S_lower (S_box HS5.out (show w.heap.size + 1 < w.heap.size + 2 by omega) _) (by omega), below_set HB.out (by omega)⟩
   }
   }
   {
   rw [if_neg c4] at H
   exact absurd H (by simp)
   }
   }
   {
   rw [if_neg c3] at H
   have c3b0 := decide_eq_false c3
   clear c3
   obtain ⟨rfl, rfl⟩ : out = r1 ∧ true = r2 := by simpa using H
   clear H
   go_wp2
   refine bodyPost_ret (results_ct rfl _ _ (w.heap.size + 1) 26 #[.slice Ao out.length co] (0, 0) _ rfl (blk_put (cs := #[.slice none 0 0]) B6.out 0 _ rfl) Try.underlying26 rfl (by kernel_rfl)) rfl ?_
   exact ⟨_, rfl, Kd.S_mono (ok' := fun _ => True) (Kd.S_lower (S_box HS.out (show w.heap.size + 1 < w.heap.size + 2 by omega) _) (by omega)) (fun _ _ => trivial), below_set HB.out (by omega)⟩
   }
def impl_HoldAll.f (k : Nat) (s : List S79) (p : List S50) : Option (List S79 × Bool) := impl_eachHold.f k s p
theorem impl_HoldAll.mono : ∀ a0 a1 k, LeO (impl_HoldAll.f k a0 a1) (impl_HoldAll.f (k + 1) a0 a1) := impl_eachHold.mono
set_option maxHeartbeats 8000000 in
set_option maxRecDepth 100000 in
theorem impl_HoldAll.calls (k : Nat) (A0_0 : Option Addr) (c0_0 : Nat) (l0_0 : List S79) (A1 : Option Addr) (c1 : Nat) (l1 : List S50) (r1 : List S79) (r2 : Bool) (w : World) (hr0_0 : Kd.C k79 w A0_0 l0_0.length l0_0) (hc0_0 : l0_0.length ≤ c0_0) (hr1 : Kd.C k50 w A1 l1.length l1) (hc1 : l1.length ≤ c1) (h : impl_HoldAll.f k l0_0 l1 = some (r1, r2)) :
  Calls Try.prog 39 #[.agg #[.slice A0_0 l0_0.length c0_0], .slice A1 l1.length c1] w fun e w' => ∃ v0_ : Value, e = .returned (.tuple #[.agg #[v0_], .bool r2]) ∧ Kd.S k79 79 w' w.heap.size (fun _ => True) v0_ r1 ∧ Below w.heap.size w w' := by
 have hu26 := Try.underlying26
 have H := aM h
 have HR := aM hr0_0
 have HC := aM hc0_0
 have HP := aM hr1
 have HPC := aM hc1
 clear h hr0_0 hc0_0 hr1 hc1
 go_enter Try.func39, Try.ntmps39
 go_wp2_with (first
  | (go_at_call 83; refine (impl_eachHold.calls k _ _ l0_0 _ _ l1 r1 r2 _ (Kd.C_alloc (Kd.C_alloc HR.out _) _) HC.out (Kd.C_alloc (Kd.C_alloc HP.out _) _) HPC.out H.out).mono ?_; rintro e w1 ⟨v0, rfl, hS, hb⟩; obtain ⟨Ao, co, rfl⟩ := Kd.S_slice hS; have B4 := aM (blk_below (blk_new1 w (.cells #[.slice A0_0 l0_0.length c0_0] 26) (.cells #[.slice none 0 0] 26)) hb); have HB := aM (below_step (below_alloc (below_alloc (Below.refl w.heap.size w) _) _) hb); have HS := aM (show Kd.S k79 79 w1 (w.heap.size + 2) (fun _ => True) (.slice Ao r1.length co) r1 by rw [show w.heap.size + 2 = ((w.alloc (.cells #[.slice A0_0 l0_0.length c0_0] 26)).alloc (.cells #[.slice none 0 0] 26)).heap.size by simp]; exact hS); have C4 : w1.cell? ⟨w.heap.size + 1, 0, none⟩ = some (.slice none 0 0) := (blk_cell B4.out 0).trans rfl; have F4 := blk_frozen B4.out 0; clear hb hS))
 refine bodyPost_ret (results_ct rfl _ _ (w.heap.size + 1) 26 #[.slice Ao r1.length co] (0, 0) _ rfl (blk_put (cs := #[.slice none 0 0]) B4.out 0 _ rfl) Try.underlying26 rfl (by kernel_rfl)) rfl ?_
 exact ⟨_, rfl, Kd.S_lower (S_box HS.out (show w.heap.size + 1 < w.heap.size + 2 by omega) _) (by omega), below_set HB.out (by omega)⟩

/-! ### impl_ItemsOk: function 43 -/
def impl_ItemsOk.l0 : Nat → List (S48) → List (S48) → Int → Int → Option (Bool)
 | 0, _, _, _, _ => none
 | k + 1, x0, x5, x6, x7 => if x7 < x6 then (if 0 ≤ x7 then (if x7 < (x5.length : Int) then ((impl_in.f ((rd_T48 x5 x7).f0) 1 50).bind fun t207 => (if t207 = true then ((impl_in.f ((rd_T48 x5 x7).f1) 1 1000).bind fun t208 => (if t208 = true then (if x7 > 0 then (if 0 ≤ (wrap64 (x7 - 1)) then (if (wrap64 (x7 - 1)) < (x0.length : Int) then (if ((rd_T48 x0 (wrap64 (x7 - 1))).f0) ≥ ((rd_T48 x5 x7).f0) then (some false) else (impl_ItemsOk.l0 k x0 x5 x6 (wrap64 (x7 + 1)))) else (none)) else (none)) else (impl_ItemsOk.l0 k x0 x5 x6 (wrap64 (x7 + 1)))) else (some false))) else (some false))) else (none)) else (none)) else (some (decide ((x0.length : Int) ≤ 6)))
def impl_ItemsOk.f (k : Nat) (l0 : List (S48)) : Option (Bool) := impl_ItemsOk.l0 k l0 l0 (l0.length : Int) 0
theorem impl_ItemsOk.mono_l : ∀ k, (∀ y0 y1 y2 y3, LeO (impl_ItemsOk.l0 k y0 y1 y2 y3) (impl_ItemsOk.l0 (k + 1) y0 y1 y2 y3))
 | 0 => fun _ _ _ _ r h => by simp [impl_ItemsOk.l0] at h
 | k + 1 => by
  have ih0 := impl_ItemsOk.mono_l k
  {
  intro y0 y1 y2 y3
  unfold impl_ItemsOk.l0
  repeat' first
  | (with_reducible first | exact ih0 _ _ _ _ | exact LeO.refl _ | exact LeO.none _ | refine LeO.ite ?_ ?_ | refine LeO.bind ?_ (fun _ => ?_))
  | exact ih0 _ _ _ _
  | exact LeO.none _
  | refine LeO.ite ?_ ?_
  | refine LeO.bind ?_ (fun _ => ?_)
  }
theorem impl_ItemsOk.mono : ∀ a0 k, LeO (impl_ItemsOk.f k a0) (impl_ItemsOk.f (k + 1) a0) := by
 intro a0 k
 have ih0 := impl_ItemsOk.mono_l k
 unfold impl_ItemsOk.f
 repeat' first
  | (with_reducible first | exact ih0 _ _ _ _ | exact LeO.refl _ | exact LeO.none _ | refine LeO.ite ?_ ?_ | refine LeO.bind ?_ (fun _ => ?_))
  | exact ih0 _ _ _ _
  | exact LeO.none _
  | refine LeO.ite ?_ ?_
  | refine LeO.bind ?_ (fun _ => ?_)
set_option maxHeartbeats 8000000 in
set_option maxRecDepth 100000 in
theorem impl_ItemsOk.calls (k : Nat) (A0 : Option Addr) (c0 : Nat) (l0 : List (S48)) (r : Bool) (w : World) (hr0 : Kd.C k48 w A0 l0.length l0) (hc0 : l0.length ≤ c0) (h : impl_ItemsOk.f k l0 = some r) :
  Calls Try.prog 43 #[.slice A0 l0.length c0] w fun e w' => e = .returned (.bool r) ∧ Below w.heap.size w w' := by
 have hu48 := Try.underlying48
 have HR0 := aM hr0
 have HC0 := aM hc0
 clear hr0 hc0
 have HB := aM (Below.refl w.heap.size w)
 have H : (impl_ItemsOk.l0 k l0 l0 (l0.length : Int) 0) = some r := h
 clear h
 have H' := aM H
 clear H
 go_enter Try.func43, Try.ntmps43
 go_wp2
 repeat (go_quiet (fail); try go_wp2)
 go_loopg [7] k (fun kq v7 w' => ∃ (x7_1 : Int), v7 = .int .i64 x7_1 ∧ Aside0 (impl_ItemsOk.l0 kq l0 l0 (l0.length : Int) x7_1 = some r) ∧ Aside0 (kq ≤ k) ∧ Aside0 (Below w.heap.size w w'))
 case atStart => exact ⟨(0), qz4, H', ⟨Nat.le_refl _⟩, ⟨by repeat (first | (with_reducible first | exact HB.out | apply below_alloc | apply pw_below_drewN | apply below_drew1) | exact HB.out)⟩⟩
 case round =>
  clear H'
  obtain ⟨x7_1, rfl, HA, HK1, HB⟩ := hrel
  cases gk with
  | zero => exact absurd HA.out (by simp [impl_ItemsOk.l0])
  | succ k1 =>
   have H := HA.out
   clear HA
   simp only [impl_ItemsOk.l0] at H
   by_cases c2 : x7_1 < (l0.length : Int)
   {
   rw [if_pos c2] at H
   have c2b0 := decide_eq_true c2
   clear c2
   by_cases c3 : 0 ≤ x7_1
   {
   rw [if_pos c3] at H
   have c3b0 := decide_eq_true c3
   clear c3
   by_cases c4 : x7_1 < (l0.length : Int)
   {
   rw [if_pos c4] at H
   have c4b0 := decide_eq_true c4
   clear c4
   replace H := Option.bind_eq_some_iff.mp H
   obtain ⟨t207, A50, H⟩ := H
   replace H : (if t207 = true then ((impl_in.f ((rd_T48 l0 x7_1).f1) 1 1000).bind fun t208 => (if t208 = true then (if x7_1 > 0 then (if 0 ≤ (wrap64 (x7_1 - 1)) then (if (wrap64 (x7_1 - 1)) < (l0.length : Int) then (if ((rd_T48 l0 (wrap64 (x7_1 - 1))).f0) ≥ ((rd_T48 l0 x7_1).f0) then (some false) else (impl_ItemsOk.l0 k1 l0 l0 (l0.length : Int) (wrap64 (x7_1 + 1)))) else (none)) else (none)) else (impl_ItemsOk.l0 k1 l0 l0 (l0.length : Int) (wrap64 (x7_1 + 1)))) else (some false))) else (some false)) = some r := H
   have A5 := aM A50
   clear A50
   by_cases c6 : t207 = true
   {
   subst c6
   rw [if_pos rfl] at H
   replace H := Option.bind_eq_some_iff.mp H
   obtain ⟨t208, A70, H⟩ := H
   replace H : (if t208 = true then (if x7_1 > 0 then (if 0 ≤ (wrap64 (x7_1 - 1)) then (if (wrap64 (x7_1 - 1)) < (l0.length : Int) then (if ((rd_T48 l0 (wrap64 (x7_1 - 1))).f0) ≥ ((rd_T48 l0 x7_1).f0) then (some false) else (impl_ItemsOk.l0 k1 l0 l0 (l0.length : Int) (wrap64 (x7_1 + 1)))) else (none)) else (none)) else (impl_ItemsOk.l0 k1 l0 l0 (l0.length : Int) (wrap64 (x7_1 + 1)))) else (some false)) = some r := H
   have A7 := aM A70
   clear A70
   by_cases c8 : t208 = true
   {
   subst c8
   rw [if_pos rfl] at H
   by_cases c9 : x7_1 > 0
   {
   rw [if_pos c9] at H
   have c9b0 := decide_eq_true c9
   clear c9
   obtain ⟨ji10, hji10⟩ : ∃ j_ : Int, (wrap64 (x7_1 - 1)) = j_ := ⟨_, rfl⟩
   replace H : (if 0 ≤ (ji10) then (if (ji10) < (l0.length : Int) then (if ((rd_T48 l0 (ji10)).f0) ≥ ((rd_T48 l0 x7_1).f0) then (some false) else (impl_ItemsOk.l0 k1 l0 l0 (l0.length : Int) (wrap64 (x7_1 + 1)))) else (none)) else (none)) = some r := by first | (rw [hji10] at H; exact H) | (simp only [hji10] at H ⊢; exact H)
   (try rw [hji10] at A5)
   (try rw [hji10] at A7)
   have hji10w : (IntKind.i64.wrap (x7_1 - 1)) = ji10 := (i64_w _).trans hji10
   by_cases c11 : 0 ≤ (ji10)
   {
   rw [if_pos c11] at H
   have c11b0 := decide_eq_true c11
   clear c11
   by_cases c12 : (ji10) < (l0.length : Int)
   {
   rw [if_pos c12] at H
   have c12b0 := decide_eq_true c12
   clear c12
   by_cases c13 : ((rd_T48 l0 (ji10)).f0) ≥ ((rd_T48 l0 x7_1).f0)
   {
   rw [if_pos c13] at H
   have c13b0 := decide_eq_true c13
   clear c13
   obtain rfl := Option.some.inj H
   simp only [Option.some.injEq, Prod.mk.injEq] at H
   obtain ⟨rfl⟩ := H
   have p205 : 0 ≤ (x7_1 : Int) := of_decide_eq_true qz2
   have q205 : x7_1 < (l0.length : Int) := of_decide_eq_true qz2
   obtain ⟨ad205, e205, hx205_0, hx205_1⟩ := at_T48 HR0.out x7_1 p205 q205
   cases e205
   replace hx205_0 := pw_cell_below HB.out hx205_0
   replace hx205_1 := pw_cell_below HB.out hx205_1
   replace p205 := eq_true p205
   replace q205 := eq_true q205
   go_wp2_with (first | ((with_reducible refine gate_dst (N := 4) rfl ?_); refine bx_ 4 #[.int .i64 0, .int .i64 0] 48 ?_; intro gb206 hg w14 hbox hb; have n0_ := aM (below_step qz1 hb); have n1_ := aM (hbox); have n2_ := aM ((by rw [hg]; exact (below_size qz1) : w.heap.size ≤ gb206)); have n3_ := aM ((by rw [hg]; exact (below_size qz1) : w.heap.size ≤ gb206)); clear HB; have HB := n0_; have BK206 := n1_; have GW206 := n2_; have GE206 := n3_; clear n0_ n1_ n2_ n3_; clear hb hbox hg; have hcz15_0 := bc0_ BK206.out; have hcz15_1 := bc1_ BK206.out; have hfz15_0 := blk_frozen BK206.out 0; have hfz15_1 := blk_frozen BK206.out 1) | (go_at_call 64; (with_reducible refine (impl_in.calls ((rd_T48 l0 x7_1).f0) 1 50 true _ A5.out).mono ?_); rintro e w' ⟨rfl, ⟨nd, rfl⟩⟩; (try first | exact ⟨rfl, _, World.drewN_drewN _ _ _⟩ | exact ⟨rfl, _, Eq.trans (World.drewN_drewN _ _ _) (congrArg (World.drewN _) (Nat.add_assoc _ _ _))⟩)) | (go_at_call 64; (with_reducible refine (impl_in.calls ((rd_T48 l0 x7_1).f1) 1 1000 true _ A7.out).mono ?_); rintro e w' ⟨rfl, ⟨nd, rfl⟩⟩; (try first | exact ⟨rfl, _, World.drewN_drewN _ _ _⟩ | exact ⟨rfl, _, Eq.trans (World.drewN_drewN _ _ _) (congrArg (World.drewN _) (Nat.add_assoc _ _ _))⟩); have p209 : 0 ≤ ((ji10) : Int) := of_decide_eq_true qz2; have q209 : (ji10) < (l0.length : Int) := of_decide_eq_true qz2; obtain ⟨ad209, e209, hx209_0, hx209_1⟩ := at_T48 HR0.out (ji10) p209 q209; obtain rfl : ad205 = ad209 := (by injection e209); have hn209_0 : ad205.block ≠ gb206 := Nat.ne_of_lt (Nat.lt_of_lt_of_le (by have := World.block_lt_of_cell? _ _ hx209_0; first | rwa [add_block] at this | exact this) GW206.out); have hn209_1 : ad205.block ≠ gb206 := Nat.ne_of_lt (Nat.lt_of_lt_of_le (by have := World.block_lt_of_cell? _ _ hx209_0; first | rwa [add_block] at this | exact this) GW206.out); replace hx209_0 := pw_cell_below HB.out hx209_0; replace hx209_1 := pw_cell_below HB.out hx209_1; replace hx209_0 := (cell_far (p := ⟨gb206, 0, none⟩) qz22 (.int .i64 ((rd_T48 l0 x7_1).f0))).trans hx209_0; replace hx209_1 := (cell_far (p := ⟨gb206, 0, none⟩) qz22 (.int .i64 ((rd_T48 l0 x7_1).f0))).trans hx209_1; replace hx209_0 := (cell_far (p := ⟨gb206, 1, none⟩) qz23 (.int .i64 ((rd_T48 l0 x7_1).f1))).trans hx209_0; replace hx209_1 := (cell_far (p := ⟨gb206, 1, none⟩) qz23 (.int .i64 ((rd_T48 l0 x7_1).f1))).trans hx209_1; (try have hy209_0 := fun (n_ : Nat) => (show ((((w14.drewN n_).setCell ⟨gb206, 0, none⟩ (.int .i64 ((rd_T48 l0 x7_1).f0))).setCell ⟨gb206, 1, none⟩ (.int .i64 ((rd_T48 l0 x7_1).f1)))).cell? _ = some _ from hx209_0)); (try have hy209_1 := fun (n_ : Nat) => (show ((((w14.drewN n_).setCell ⟨gb206, 0, none⟩ (.int .i64 ((rd_T48 l0 x7_1).f0))).setCell ⟨gb206, 1, none⟩ (.int .i64 ((rd_T48 l0 x7_1).f1)))).cell? _ = some _ from hx209_1)); clear hn209_0 hn209_1; replace p209 := eq_true p209; replace q209 := eq_true q209))
   repeat (go_quiet (first | ((with_reducible refine gate_dst (N := 4) rfl ?_); refine bx_ 4 #[.int .i64 0, .int .i64 0] 48 ?_; intro gb206 hg w14 hbox hb; have n0_ := aM (below_step qz1 hb); have n1_ := aM (hbox); have n2_ := aM ((by rw [hg]; exact (below_size qz1) : w.heap.size ≤ gb206)); have n3_ := aM ((by rw [hg]; exact (below_size qz1) : w.heap.size ≤ gb206)); clear HB; have HB := n0_; have BK206 := n1_; have GW206 := n2_; have GE206 := n3_; clear n0_ n1_ n2_ n3_; clear hb hbox hg; have hcz15_0 := bc0_ BK206.out; have hcz15_1 := bc1_ BK206.out; have hfz15_0 := blk_frozen BK206.out 0; have hfz15_1 := blk_frozen BK206.out 1) | (go_at_call 64; (with_reducible refine (impl_in.calls ((rd_T48 l0 x7_1).f0) 1 50 true _ A5.out).mono ?_); rintro e w' ⟨rfl, ⟨nd, rfl⟩⟩; (try first | exact ⟨rfl, _, World.drewN_drewN _ _ _⟩ | exact ⟨rfl, _, Eq.trans (World.drewN_drewN _ _ _) (congrArg (World.drewN _) (Nat.add_assoc _ _ _))⟩)) | (go_at_call 64; (with_reducible refine (impl_in.calls ((rd_T48 l0 x7_1).f1) 1 1000 true _ A7.out).mono ?_); rintro e w' ⟨rfl, ⟨nd, rfl⟩⟩; (try first | exact ⟨rfl, _, World.drewN_drewN _ _ _⟩ | exact ⟨rfl, _, Eq.trans (World.drewN_drewN _ _ _) (congrArg (World.drewN _) (Nat.add_assoc _ _ _))⟩); have p209 : 0 ≤ ((ji10) : Int) := of_decide_eq_true qz2; have q209 : (ji10) < (l0.length : Int) := of_decide_eq_true qz2; obtain ⟨ad209, e209, hx209_0, hx209_1⟩ := at_T48 HR0.out (ji10) p209 q209; obtain rfl : ad205 = ad209 := (by injection e209); have hn209_0 : ad205.block ≠ gb206 := Nat.ne_of_lt (Nat.lt_of_lt_of_le (by have := World.block_lt_of_cell? _ _ hx209_0; first | rwa [add_block] at this | exact this) GW206.out); have hn209_1 : ad205.block ≠ gb206 := Nat.ne_of_lt (Nat.lt_of_lt_of_le (by have := World.block_lt_of_cell? _ _ hx209_0; first | rwa [add_block] at this | exact this) GW206.out); replace hx209_0 := pw_cell_below HB.out hx209_0; replace hx209_1 := pw_cell_below HB.out hx209_1; replace hx209_0 := (cell_far (p := ⟨gb206, 0, none⟩) qz22 (.int .i64 ((rd_T48 l0 x7_1).f0))).trans hx209_0; replace hx209_1 := (cell_far (p := ⟨gb206, 0, none⟩) qz22 (.int .i64 ((rd_T48 l0 x7_1).f0))).trans hx209_1; replace hx209_0 := (cell_far (p := ⟨gb206, 1, none⟩) qz23 (.int .i64 ((rd_T48 l0 x7_1).f1))).trans hx209_0; replace hx209_1 := (cell_far (p := ⟨gb206, 1, none⟩) qz23 (.int .i64 ((rd_T48 l0 x7_1).f1))).trans hx209_1; (try have hy209_0 := fun (n_ : Nat) => (show ((((w14.drewN n_).setCell ⟨gb206, 0, none⟩ (.int .i64 ((rd_T48 l0 x7_1).f0))).setCell ⟨gb206, 1, none⟩ (.int .i64 ((rd_T48 l0 x7_1).f1)))).cell? _ = some _ from hx209_0)); (try have hy209_1 := fun (n_ : Nat) => (show ((((w14.drewN n_).setCell ⟨gb206, 0, none⟩ (.int .i64 ((rd_T48 l0 x7_1).f0))).setCell ⟨gb206, 1, none⟩ (.int .i64 ((rd_T48 l0 x7_1).f1)))).cell? _ = some _ from hx209_1)); clear hn209_0 hn209_1; replace p209 := eq_true p209; replace q209 := eq_true q209)); try go_wp2_with (first | ((with_reducible refine gate_dst (N := 4) rfl ?_); refine bx_ 4 #[.int .i64 0, .int .i64 0] 48 ?_; intro gb206 hg w14 hbox hb; have n0_ := aM (below_step qz1 hb); have n1_ := aM (hbox); have n2_ := aM ((by rw [hg]; exact (below_size qz1) : w.heap.size ≤ gb206)); have n3_ := aM ((by rw [hg]; exact (below_size qz1) : w.heap.size ≤ gb206)); clear HB; have HB := n0_; have BK206 := n1_; have GW206 := n2_; have GE206 := n3_; clear n0_ n1_ n2_ n3_; clear hb hbox hg; have hcz15_0 := bc0_ BK206.out; have hcz15_1 := bc1_ BK206.out; have hfz15_0 := blk_frozen BK206.out 0; have hfz15_1 := blk_frozen BK206.out 1) | (go_at_call 64; (with_reducible refine (impl_in.calls ((rd_T48 l0 x7_1).f0) 1 50 true _ A5.out).mono ?_); rintro e w' ⟨rfl, ⟨nd, rfl⟩⟩; (try first | exact ⟨rfl, _, World.drewN_drewN _ _ _⟩ | exact ⟨rfl, _, Eq.trans (World.drewN_drewN _ _ _) (congrArg (World.drewN _) (Nat.add_assoc _ _ _))⟩)) | (go_at_call 64; (with_reducible refine (impl_in.calls ((rd_T48 l0 x7_1).f1) 1 1000 true _ A7.out).mono ?_); rintro e w' ⟨rfl, ⟨nd, rfl⟩⟩; (try first | exact ⟨rfl, _, World.drewN_drewN _ _ _⟩ | exact ⟨rfl, _, Eq.trans (World.drewN_drewN _ _ _) (congrArg (World.drewN _) (Nat.add_assoc _ _ _))⟩); have p209 : 0 ≤ ((ji10) : Int) := of_decide_eq_true qz2; have q209 : (ji10) < (l0.length : Int) := of_decide_eq_true qz2; obtain ⟨ad209, e209, hx209_0, hx209_1⟩ := at_T48 HR0.out (ji10) p209 q209; obtain rfl : ad205 = ad209 := (by injection e209); have hn209_0 : ad205.block ≠ gb206 := Nat.ne_of_lt (Nat.lt_of_lt_of_le (by have := World.block_lt_of_cell? _ _ hx209_0; first | rwa [add_block] at this | exact this) GW206.out); have hn209_1 : ad205.block ≠ gb206 := Nat.ne_of_lt (Nat.lt_of_lt_of_le (by have := World.block_lt_of_cell? _ _ hx209_0; first | rwa [add_block] at this | exact this) GW206.out); replace hx209_0 := pw_cell_below HB.out hx209_0; replace hx209_1 := pw_cell_below HB.out hx209_1; replace hx209_0 := (cell_far (p := ⟨gb206, 0, none⟩) qz22 (.int .i64 ((rd_T48 l0 x7_1).f0))).trans hx209_0; replace hx209_1 := (cell_far (p := ⟨gb206, 0, none⟩) qz22 (.int .i64 ((rd_T48 l0 x7_1).f0))).trans hx209_1; replace hx209_0 := (cell_far (p := ⟨gb206, 1, none⟩) qz23 (.int .i64 ((rd_T48 l0 x7_1).f1))).trans hx209_0; replace hx209_1 := (cell_far (p := ⟨gb206, 1, none⟩) qz23 (.int .i64 ((rd_T48 l0 x7_1).f1))).trans hx209_1; (try have hy209_0 := fun (n_ : Nat) => (show ((((w14.drewN n_).setCell ⟨gb206, 0, none⟩ (.int .i64 ((rd_T48 l0 x7_1).f0))).setCell ⟨gb206, 1, none⟩ (.int .i64 ((rd_T48 l0 x7_1).f1)))).cell? _ = some _ from hx209_0)); (try have hy209_1 := fun (n_ : Nat) => (show ((((w14.drewN n_).setCell ⟨gb206, 0, none⟩ (.int .i64 ((rd_T48 l0 x7_1).f0))).setCell ⟨gb206, 1, none⟩ (.int .i64 ((rd_T48 l0 x7_1).f1)))).cell? _ = some _ from hx209_1)); clear hn209_0 hn209_1; replace p209 := eq_true p209; replace q209 := eq_true q209)))
   go_ret
   exact ⟨by first | rfl | (simp [errW_none, errW_some] <;> rfl) | (simp only [← hji10]; first | rfl | (simp [errW_none, errW_some] <;> rfl)) | (simp [*, errW_none, errW_some] <;> rfl), by repeat (first | (with_reducible first | exact HB.out | apply below_alloc | apply pw_below_drewN | apply below_drew1 | refine below_set ?_ GE206.out) | exact HB.out)⟩
   }
   {
   rw [if_neg c13] at H
   have c13b0 := decide_eq_false c13
   clear c13
   have H' := aM H
   clear H
   have p205 : 0 ≤ (x7_1 : Int) := of_decide_eq_true qz2
   have q205 : x7_1 < (l0.length : Int) := of_decide_eq_true qz2
   obtain ⟨ad205, e205, hx205_0, hx205_1⟩ := at_T48 HR0.out x7_1 p205 q205
   cases e205
   replace hx205_0 := pw_cell_below HB.out hx205_0
   replace hx205_1 := pw_cell_below HB.out hx205_1
   replace p205 := eq_true p205
   replace q205 := eq_true q205
   go_wp2_with (first | ((with_reducible refine gate_dst (N := 4) rfl ?_); refine bx_ 4 #[.int .i64 0, .int .i64 0] 48 ?_; intro gb206 hg w16 hbox hb; have n0_ := aM (below_step qz1 hb); have n1_ := aM (hbox); have n2_ := aM ((by rw [hg]; exact (below_size qz1) : w.heap.size ≤ gb206)); have n3_ := aM ((by rw [hg]; exact (below_size qz1) : w.heap.size ≤ gb206)); clear HB; have HB := n0_; have BK206 := n1_; have GW206 := n2_; have GE206 := n3_; clear n0_ n1_ n2_ n3_; clear hb hbox hg; have hcz17_0 := bc0_ BK206.out; have hcz17_1 := bc1_ BK206.out; have hfz17_0 := blk_frozen BK206.out 0; have hfz17_1 := blk_frozen BK206.out 1) | (go_at_call 64; (with_reducible refine (impl_in.calls ((rd_T48 l0 x7_1).f0) 1 50 true _ A5.out).mono ?_); rintro e w' ⟨rfl, ⟨nd, rfl⟩⟩; (try first | exact ⟨rfl, _, World.drewN_drewN _ _ _⟩ | exact ⟨rfl, _, Eq.trans (World.drewN_drewN _ _ _) (congrArg (World.drewN _) (Nat.add_assoc _ _ _))⟩)) | (go_at_call 64; (with_reducible refine (impl_in.calls ((rd_T48 l0 x7_1).f1) 1 1000 true _ A7.out).mono ?_); rintro e w' ⟨rfl, ⟨nd, rfl⟩⟩; (try first | exact ⟨rfl, _, World.drewN_drewN _ _ _⟩ | exact ⟨rfl, _, Eq.trans (World.drewN_drewN _ _ _) (congrArg (World.drewN _) (Nat.add_assoc _ _ _))⟩); have p209 : 0 ≤ ((ji10) : Int) := of_decide_eq_true qz2; have q209 : (ji10) < (l0.length : Int) := of_decide_eq_true qz2; obtain ⟨ad209, e209, hx209_0, hx209_1⟩ := at_T48 HR0.out (ji10) p209 q209; obtain rfl : ad205 = ad209 := (by injection e209); have hn209_0 : ad205.block ≠ gb206 := Nat.ne_of_lt (Nat.lt_of_lt_of_le (by have := World.block_lt_of_cell? _ _ hx209_0; first | rwa [add_block] at this | exact this) GW206.out); have hn209_1 : ad205.block ≠ gb206 := Nat.ne_of_lt (Nat.lt_of_lt_of_le (by have := World.block_lt_of_cell? _ _ hx209_0; first | rwa [add_block] at this | exact this) GW206.out); replace hx209_0 := pw_cell_below HB.out hx209_0; replace hx209_1 := pw_cell_below HB.out hx209_1; replace hx209_0 := (cell_far (p := ⟨gb206, 0, none⟩) qz22 (.int .i64 ((rd_T48 l0 x7_1).f0))).trans hx209_0; replace hx209_1 := (cell_far (p := ⟨gb206, 0, none⟩) qz22 (.int .i64 ((rd_T48 l0 x7_1).f0))).trans hx209_1; replace hx209_0 := (cell_far (p := ⟨gb206, 1, none⟩) qz23 (.int .i64 ((rd_T48 l0 x7_1).f1))).trans hx209_0; replace hx209_1 := (cell_far (p := ⟨gb206, 1, none⟩) qz23 (.int .i64 ((rd_T48 l0 x7_1).f1))).trans hx209_1; (try have hy209_0 := fun (n_ : Nat) => (show ((((w16.drewN n_).setCell ⟨gb206, 0, none⟩ (.int .i64 ((rd_T48 l0 x7_1).f0))).setCell ⟨gb206, 1, none⟩ (.int .i64 ((rd_T48 l0 x7_1).f1)))).cell? _ = some _ from hx209_0)); (try have hy209_1 := fun (n_ : Nat) => (show ((((w16.drewN n_).setCell ⟨gb206, 0, none⟩ (.int .i64 ((rd_T48 l0 x7_1).f0))).setCell ⟨gb206, 1, none⟩ (.int .i64 ((rd_T48 l0 x7_1).f1)))).cell? _ = some _ from hx209_1)); clear hn209_0 hn209_1; replace p209 := eq_true p209; replace q209 := eq_true q209))
   repeat (go_quiet (first | ((with_reducible refine gate_dst (N := 4) rfl ?_); refine bx_ 4 #[.int .i64 0, .int .i64 0] 48 ?_; intro gb206 hg w16 hbox hb; have n0_ := aM (below_step qz1 hb); have n1_ := aM (hbox); have n2_ := aM ((by rw [hg]; exact (below_size qz1) : w.heap.size ≤ gb206)); have n3_ := aM ((by rw [hg]; exact (below_size qz1) : w.heap.size ≤ gb206)); clear HB; have HB := n0_; have BK206 := n1_; have GW206 := n2_; have GE206 := n3_; clear n0_ n1_ n2_ n3_; clear hb hbox hg; have hcz17_0 := bc0_ BK206.out; have hcz17_1 := bc1_ BK206.out; have hfz17_0 := blk_frozen BK206.out 0; have hfz17_1 := blk_frozen BK206.out 1) | (go_at_call 64; (with_reducible refine (impl_in.calls ((rd_T48 l0 x7_1).f0) 1 50 true _ A5.out).mono ?_); rintro e w' ⟨rfl, ⟨nd, rfl⟩⟩; (try first | exact ⟨rfl, _, World.drewN_drewN _ _ _⟩ | exact ⟨rfl, _, Eq.trans (World.drewN_drewN _ _ _) (congrArg (World.drewN _) (Nat.add_assoc _ _ _))⟩)) | (go_at_call 64; (with_reducible refine (impl_in.calls ((rd_T48 l0 x7_1).f1) 1 1000 true _ A7.out).mono ?_); rintro e w' ⟨rfl, ⟨nd, rfl⟩⟩; (try first | exact ⟨rfl, _, World.drewN_drewN _ _ _⟩ | exact ⟨rfl, _, Eq.trans (World.drewN_drewN _ _ _) (congrArg (World.drewN _) (Nat.add_assoc _ _ _))⟩); have p209 : 0 ≤ ((ji10) : Int) := of_decide_eq_true qz2; have q209 : (ji10) < (l0.length : Int) := of_decide_eq_true qz2; obtain ⟨ad209, e209, hx209_0, hx209_1⟩ := at_T48 HR0.out (ji10) p209 q209; obtain rfl : ad205 = ad209 := (by injection e209); have hn209_0 : ad205.block ≠ gb206 := Nat.ne_of_lt (Nat.lt_of_lt_of_le (by have := World.block_lt_of_cell? _ _ hx209_0; first | rwa [add_block] at this | exact this) GW206.out); have hn209_1 : ad205.block ≠ gb206 := Nat.ne_of_lt (Nat.lt_of_lt_of_le (by have := World.block_lt_of_cell? _ _ hx209_0; first | rwa [add_block] at this | exact this) GW206.out); replace hx209_0 := pw_cell_below HB.out hx209_0; replace hx209_1 := pw_cell_below HB.out hx209_1; replace hx209_0 := (cell_far (p := ⟨gb206, 0, none⟩) qz22 (.int .i64 ((rd_T48 l0 x7_1).f0))).trans hx209_0; replace hx209_1 := (cell_far (p := ⟨gb206, 0, none⟩) qz22 (.int .i64 ((rd_T48 l0 x7_1).f0))).trans hx209_1; replace hx209_0 := (cell_far (p := ⟨gb206, 1, none⟩) qz23 (.int .i64 ((rd_T48 l0 x7_1).f1))).trans hx209_0; replace hx209_1 := (cell_far (p := ⟨gb206, 1, none⟩) qz23 (.int .i64 ((rd_T48 l0 x7_1).f1))).trans hx209_1; (try have hy209_0 := fun (n_ : Nat) => (show ((((w16.drewN n_).setCell ⟨gb206, 0, none⟩ (.int .i64 ((rd_T48 l0 x7_1).f0))).setCell ⟨gb206, 1, none⟩ (.int .i64 ((rd_T48 l0 x7_1).f1)))).cell? _ = some _ from hx209_0)); (try have hy209_1 := fun (n_ : Nat) => (show ((((w16.drewN n_).setCell ⟨gb206, 0, none⟩ (.int .i64 ((rd_T48 l0 x7_1).f0))).setCell ⟨gb206, 1, none⟩ (.int .i64 ((rd_T48 l0 x7_1).f1)))).cell? _ = some _ from hx209_1)); clear hn209_0 hn209_1; replace p209 := eq_true p209; replace q209 := eq_true q209)); try go_wp2_with (first | ((with_reducible refine gate_dst (N := 4) rfl ?_); refine bx_ 4 #[.int .i64 0, .int .i64 0] 48 ?_; intro gb206 hg w16 hbox hb; have n0_ := aM (below_step qz1 hb); have n1_ := aM (hbox); have n2_ := aM ((by rw [hg]; exact (below_size qz1) : w.heap.size ≤ gb206)); have n3_ := aM ((by rw [hg]; exact (below_size qz1) : w.heap.size ≤ gb206)); clear HB; have HB := n0_; have BK206 := n1_; have GW206 := n2_; have GE206 := n3_; clear n0_ n1_ n2_ n3_; clear hb hbox hg; have hcz17_0 := bc0_ BK206.out; have hcz17_1 := bc1_ BK206.out; have hfz17_0 := blk_frozen BK206.out 0; have hfz17_1 := blk_frozen BK206.out 1) | (go_at_call 64; (with_reducible refine (impl_in.calls ((rd_T48 l0 x7_1).f0) 1 50 true _ A5.out).mono ?_); rintro e w' ⟨rfl, ⟨nd, rfl⟩⟩; (try first | exact ⟨rfl, _, World.drewN_drewN _ _ _⟩ | exact ⟨rfl, _, Eq.trans (World.drewN_drewN _ _ _) (congrArg (World.drewN _) (Nat.add_assoc _ _ _))⟩)) | (go_at_call 64; (with_reducible refine (impl_in.calls ((rd_T48 l0 x7_1).f1) 1 1000 true _ A7.out).mono ?_); rintro e w' ⟨rfl, ⟨nd, rfl⟩⟩; (try first | exact ⟨rfl, _, World.drewN_drewN _ _ _⟩ | exact ⟨rfl, _, Eq.trans (World.drewN_drewN _ _ _) (congrArg (World.drewN _) (Nat.add_assoc _ _ _))⟩); have p209 : 0 ≤ ((ji10) : Int) := of_decide_eq_true qz2; have q209 : (ji10) < (l0.length : Int) := of_decide_eq_true qz2; obtain ⟨ad209, e209, hx209_0, hx209_1⟩ := at_T48 HR0.out (ji10) p209 q209; obtain rfl : ad205 = ad209 := (by injection e209); have hn209_0 : ad205.block ≠ gb206 := Nat.ne_of_lt (Nat.lt_of_lt_of_le (by have := World.block_lt_of_cell? _ _ hx209_0; first | rwa [add_block] at this | exact this) GW206.out); have hn209_1 : ad205.block ≠ gb206 := Nat.ne_of_lt (Nat.lt_of_lt_of_le (by have := World.block_lt_of_cell? _ _ hx209_0; first | rwa [add_block] at this | exact this) GW206.out); replace hx209_0 := pw_cell_below HB.out hx209_0; replace hx209_1 := pw_cell_below HB.out hx209_1; replace hx209_0 := (cell_far (p := ⟨gb206, 0, none⟩) qz22 (.int .i64 ((rd_T48 l0 x7_1).f0))).trans hx209_0; replace hx209_1 := (cell_far (p := ⟨gb206, 0, none⟩) qz22 (.int .i64 ((rd_T48 l0 x7_1).f0))).trans hx209_1; replace hx209_0 := (cell_far (p := ⟨gb206, 1, none⟩) qz23 (.int .i64 ((rd_T48 l0 x7_1).f1))).trans hx209_0; replace hx209_1 := (cell_far (p := ⟨gb206, 1, none⟩) qz23 (.int .i64 ((rd_T48 l0 x7_1).f1))).trans hx209_1; (try have hy209_0 := fun (n_ : Nat) => (show ((((w16.drewN n_).setCell ⟨gb206, 0, none⟩ (.int .i64 ((rd_T48 l0 x7_1).f0))).setCell ⟨gb206, 1, none⟩ (.int .i64 ((rd_T48 l0 x7_1).f1)))).cell? _ = some _ from hx209_0)); (try have hy209_1 := fun (n_ : Nat) => (show ((((w16.drewN n_).setCell ⟨gb206, 0, none⟩ (.int .i64 ((rd_T48 l0 x7_1).f0))).setCell ⟨gb206, 1, none⟩ (.int .i64 ((rd_T48 l0 x7_1).f1)))).cell? _ = some _ from hx209_1)); clear hn209_0 hn209_1; replace p209 := eq_true p209; replace q209 := eq_true q209)))
   go_roundg k1
   case measure => have := HK1.out; omega
   case rel => exact ⟨(wrap64 (x7_1 + 1)), qz4, H', ⟨by have := HK1.out; omega⟩, ⟨by repeat (first | (with_reducible first | exact HB.out | apply below_alloc | apply pw_below_drewN | apply below_drew1 | refine below_set ?_ GE206.out) | exact HB.out)⟩⟩
   }
   }
   {
   rw [if_neg c12] at H
   exact absurd H (by simp)
   }
   }
   {
   rw [if_neg c11] at H
   exact absurd H (by simp)
   }
   }
   {
   rw [if_neg c9] at H
   have c9b0 := decide_eq_false c9
   clear c9
   have H' := aM H
   clear H
   have p205 : 0 ≤ (x7_1 : Int) := of_decide_eq_true qz2
   have q205 : x7_1 < (l0.length : Int) := of_decide_eq_true qz2
   obtain ⟨ad205, e205, hx205_0, hx205_1⟩ := at_T48 HR0.out x7_1 p205 q205
   cases e205
   replace hx205_0 := pw_cell_below HB.out hx205_0
   replace hx205_1 := pw_cell_below HB.out hx205_1
   replace p205 := eq_true p205
   replace q205 := eq_true q205
   go_wp2_with (first | ((with_reducible refine gate_dst (N := 4) rfl ?_); refine bx_ 4 #[.int .i64 0, .int .i64 0] 48 ?_; intro gb206 hg w18 hbox hb; have n0_ := aM (below_step qz1 hb); have n1_ := aM (hbox); have n2_ := aM ((by rw [hg]; exact (below_size qz1) : w.heap.size ≤ gb206)); have n3_ := aM ((by rw [hg]; exact (below_size qz1) : w.heap.size ≤ gb206)); clear HB; have HB := n0_; have BK206 := n1_; have GW206 := n2_; have GE206 := n3_; clear n0_ n1_ n2_ n3_; clear hb hbox hg; have hcz19_0 := bc0_ BK206.out; have hcz19_1 := bc1_ BK206.out; have hfz19_0 := blk_frozen BK206.out 0; have hfz19_1 := blk_frozen BK206.out 1) | (go_at_call 64; (with_reducible refine (impl_in.calls ((rd_T48 l0 x7_1).f0) 1 50 true _ A5.out).mono ?_); rintro e w' ⟨rfl, ⟨nd, rfl⟩⟩; (try first | exact ⟨rfl, _, World.drewN_drewN _ _ _⟩ | exact ⟨rfl, _, Eq.trans (World.drewN_drewN _ _ _) (congrArg (World.drewN _) (Nat.add_assoc _ _ _))⟩)) | (go_at_call 64; (with_reducible refine (impl_in.calls ((rd_T48 l0 x7_1).f1) 1 1000 true _ A7.out).mono ?_); rintro e w' ⟨rfl, ⟨nd, rfl⟩⟩; (try first | exact ⟨rfl, _, World.drewN_drewN _ _ _⟩ | exact ⟨rfl, _, Eq.trans (World.drewN_drewN _ _ _) (congrArg (World.drewN _) (Nat.add_assoc _ _ _))⟩)))
   repeat (go_quiet (first | ((with_reducible refine gate_dst (N := 4) rfl ?_); refine bx_ 4 #[.int .i64 0, .int .i64 0] 48 ?_; intro gb206 hg w18 hbox hb; have n0_ := aM (below_step qz1 hb); have n1_ := aM (hbox); have n2_ := aM ((by rw [hg]; exact (below_size qz1) : w.heap.size ≤ gb206)); have n3_ := aM ((by rw [hg]; exact (below_size qz1) : w.heap.size ≤ gb206)); clear HB; have HB := n0_; have BK206 := n1_; have GW206 := n2_; have GE206 := n3_; clear n0_ n1_ n2_ n3_; clear hb hbox hg; have hcz19_0 := bc0_ BK206.out; have hcz19_1 := bc1_ BK206.out; have hfz19_0 := blk_frozen BK206.out 0; have hfz19_1 := blk_frozen BK206.out 1) | (go_at_call 64; (with_reducible refine (impl_in.calls ((rd_T48 l0 x7_1).f0) 1 50 true _ A5.out).mono ?_); rintro e w' ⟨rfl, ⟨nd, rfl⟩⟩; (try first | exact ⟨rfl, _, World.drewN_drewN _ _ _⟩ | exact ⟨rfl, _, Eq.trans (World.drewN_drewN _ _ _) (congrArg (World.drewN _) (Nat.add_assoc _ _ _))⟩)) | (go_at_call 64; (with_reducible refine (impl_in.calls ((rd_T48 l0 x7_1).f1) 1 1000 true _ A7.out).mono ?_); rintro e w' ⟨rfl, ⟨nd, rfl⟩⟩; (try first | exact ⟨rfl, _, World.drewN_drewN _ _ _⟩ | exact ⟨rfl, _, Eq.trans (World.drewN_drewN _ _ _) (congrArg (World.drewN _) (Nat.add_assoc _ _ _))⟩))); try go_wp2_with (first | ((with_reducible refine gate_dst (N := 4) rfl ?_); refine bx_ 4 #[.int .i64 0, .int .i64 0] 48 ?_; intro gb206 hg w18 hbox hb; have n0_ := aM (below_step qz1 hb); have n1_ := aM (hbox); have n2_ := aM ((by rw [hg]; exact (below_size qz1) : w.heap.size ≤ gb206)); have n3_ := aM ((by rw [hg]; exact (below_size qz1) : w.heap.size ≤ gb206)); clear HB; have HB := n0_; have BK206 := n1_; have GW206 := n2_; have GE206 := n3_; clear n0_ n1_ n2_ n3_; clear hb hbox hg; have hcz19_0 := bc0_ BK206.out; have hcz19_1 := bc1_ BK206.out; have hfz19_0 := blk_frozen BK206.out 0; have hfz19_1 := blk_frozen BK206.out 1) | (go_at_call 64; (with_reducible refine (impl_in.calls ((rd_T48 l0 x7_1).f0) 1 50 true _ A5.out).mono ?_); rintro e w' ⟨rfl, ⟨nd, rfl⟩⟩; (try first | exact ⟨rfl, _, World.drewN_drewN _ _ _⟩ | exact ⟨rfl, _, Eq.trans (World.drewN_drewN _ _ _) (congrArg (World.drewN _) (Nat.add_assoc _ _ _))⟩)) | (go_at_call 64; (with_reducible refine (impl_in.calls ((rd_T48 l0 x7_1).f1) 1 1000 true _ A7.out).mono ?_); rintro e w' ⟨rfl, ⟨nd, rfl⟩⟩; (try first | exact ⟨rfl, _, World.drewN_drewN _ _ _⟩ | exact ⟨rfl, _, Eq.trans (World.drewN_drewN _ _ _) (congrArg (World.drewN _) (Nat.add_assoc _ _ _))⟩))))
   go_roundg k1
   case measure => have := HK1.out; omega
   case rel => exact ⟨(wrap64 (x7_1 + 1)), qz4, H', ⟨by have := HK1.out; omega⟩, ⟨by repeat (first | (with_reducible first | exact HB.out | apply below_alloc | apply pw_below_drewN | apply below_drew1 | refine below_set ?_ GE206.out) | exact HB.out)⟩⟩
   }
   }
   {
   replace c8 := Bool.eq_false_iff.mpr c8
   subst c8
   rw [if_neg (show ¬ (false = true) by decide)] at H
   obtain rfl := Option.some.inj H
   simp only [Option.some.injEq, Prod.mk.injEq] at H
   obtain ⟨rfl⟩ := H
   have p205 : 0 ≤ (x7_1 : Int) := of_decide_eq_true qz2
   have q205 : x7_1 < (l0.length : Int) := of_decide_eq_true qz2
   obtain ⟨ad205, e205, hx205_0, hx205_1⟩ := at_T48 HR0.out x7_1 p205 q205
   cases e205
   replace hx205_0 := pw_cell_below HB.out hx205_0
   replace hx205_1 := pw_cell_below HB.out hx205_1
   replace p205 := eq_true p205
   replace q205 := eq_true q205
   go_wp2_with (first | ((with_reducible refine gate_dst (N := 4) rfl ?_); refine bx_ 4 #[.int .i64 0, .int .i64 0] 48 ?_; intro gb206 hg w20 hbox hb; have n0_ := aM (below_step qz1 hb); have n1_ := aM (hbox); have n2_ := aM ((by rw [hg]; exact (below_size qz1) : w.heap.size ≤ gb206)); have n3_ := aM ((by rw [hg]; exact (below_size qz1) : w.heap.size ≤ gb206)); clear HB; have HB := n0_; have BK206 := n1_; have GW206 := n2_; have GE206 := n3_; clear n0_ n1_ n2_ n3_; clear hb hbox hg; have hcz21_0 := bc0_ BK206.out; have hcz21_1 := bc1_ BK206.out; have hfz21_0 := blk_frozen BK206.out 0; have hfz21_1 := blk_frozen BK206.out 1) | (go_at_call 64; (with_reducible refine (impl_in.calls ((rd_T48 l0 x7_1).f0) 1 50 true _ A5.out).mono ?_); rintro e w' ⟨rfl, ⟨nd, rfl⟩⟩; (try first | exact ⟨rfl, _, World.drewN_drewN _ _ _⟩ | exact ⟨rfl, _, Eq.trans (World.drewN_drewN _ _ _) (congrArg (World.drewN _) (Nat.add_assoc _ _ _))⟩)) | (go_at_call 64; (with_reducible refine (impl_in.calls ((rd_T48 l0 x7_1).f1) 1 1000 false _ A7.out).mono ?_); rintro e w' ⟨rfl, ⟨nd, rfl⟩⟩; (try first | exact ⟨rfl, _, World.drewN_drewN _ _ _⟩ | exact ⟨rfl, _, Eq.trans (World.drewN_drewN _ _ _) (congrArg (World.drewN _) (Nat.add_assoc _ _ _))⟩)))
   repeat (go_quiet (first | ((with_reducible refine gate_dst (N := 4) rfl ?_); refine bx_ 4 #[.int .i64 0, .int .i64 0] 48 ?_; intro gb206 hg w20 hbox hb; have n0_ := aM (below_step qz1 hb); have n1_ := aM (hbox); have n2_ := aM ((by rw [hg]; exact (below_size qz1) : w.heap.size ≤ gb206)); have n3_ := aM ((by rw [hg]; exact (below_size qz1) : w.heap.size ≤ gb206)); clear HB; have HB := n0_; have BK206 := n1_; have GW206 := n2_; have GE206 := n3_; clear n0_ n1_ n2_ n3_; clear hb hbox hg; have hcz21_0 := bc0_ BK206.out; have hcz21_1 := bc1_ BK206.out; have hfz21_0 := blk_frozen BK206.out 0; have hfz21_1 := blk_frozen BK206.out 1) | (go_at_call 64; (with_reducible refine (impl_in.calls ((rd_T48 l0 x7_1).f0) 1 50 true _ A5.out).mono ?_); rintro e w' ⟨rfl, ⟨nd, rfl⟩⟩; (try first | exact ⟨rfl, _, World.drewN_drewN _ _ _⟩ | exact ⟨rfl, _, Eq.trans (World.drewN_drewN _ _ _) (congrArg (World.drewN _) (Nat.add_assoc _ _ _))⟩)) | (go_at_call 64; (with_reducible refine (impl_in.calls ((rd_T48 l0 x7_1).f1) 1 1000 false _ A7.out).mono ?_); rintro e w' ⟨rfl, ⟨nd, rfl⟩⟩; (try first | exact ⟨rfl, _, World.drewN_drewN _ _ _⟩ | exact ⟨rfl, _, Eq.trans (World.drewN_drewN _ _ _) (congrArg (World.drewN _) (Nat.add_assoc _ _ _))⟩))); try go_wp2_with (first | ((with_reducible refine gate_dst (N := 4) rfl ?_); refine bx_ 4 #[.int .i64 0, .int .i64 0] 48 ?_; intro gb206 hg w20 hbox hb; have n0_ := aM (below_step qz1 hb); have n1_ := aM (hbox); have n2_ := aM ((by rw [hg]; exact (below_size qz1) : w.heap.size ≤ gb206)); have n3_ := aM ((by rw [hg]; exact (below_size qz1) : w.heap.size ≤ gb206)); clear HB; have HB := n0_; have BK206 := n1_; have GW206 := n2_; have GE206 := n3_; clear n0_ n1_ n2_ n3_; clear hb hbox hg; have hcz21_0 := bc0_ BK206.out; have hcz21_1 := bc1_ BK206.out; have hfz21_0 := blk_frozen BK206.out 0; have hfz21_1 := blk_frozen BK206.out 1) | (go_at_call 64; (with_reducible refine (impl_in.calls ((rd_T48 l0 x7_1).f0) 1 50 true _ A5.out).mono ?_); rintro e w' ⟨rfl, ⟨nd, rfl⟩⟩; (try first | exact ⟨rfl, _, World.drewN_drewN _ _ _⟩ | exact ⟨rfl, _, Eq.trans (World.drewN_drewN _ _ _) (congrArg (World.drewN _) (Nat.add_assoc _ _ _))⟩)) | (go_at_call 64; (with_reducible refine (impl_in.calls ((rd_T48 l0 x7_1).f1) 1 1000 false _ A7.out).mono ?_); rintro e w' ⟨rfl, ⟨nd, rfl⟩⟩; (try first | exact ⟨rfl, _, World.drewN_drewN _ _ _⟩ | exact ⟨rfl, _, Eq.trans (World.drewN_drewN _ _ _) (congrArg (World.drewN _) (Nat.add_assoc _ _ _))⟩))))
   go_ret
   exact ⟨by first | rfl | (simp [errW_none, errW_some] <;> rfl) | (simp [*, errW_none, errW_some] <;> rfl), by repeat (first | (with_reducible first | exact HB.out | apply below_alloc | apply pw_below_drewN | apply below_drew1 | refine below_set ?_ GE206.out) | exact HB.out)⟩
   }
   }
   {
   replace c6 := Bool.eq_false_iff.mpr c6
   subst c6
   rw [if_neg (show ¬ (false = true) by decide)] at H
   obtain rfl := Option.some.inj H
   simp only [Option.some.injEq, Prod.mk.injEq] at H
   obtain ⟨rfl⟩ := H
   have p205 : 0 ≤ (x7_1 : Int) := of_decide_eq_true qz2
   have q205 : x7_1 < (l0.length : Int) := of_decide_eq_true qz2
   obtain ⟨ad205, e205, hx205_0, hx205_1⟩ := at_T48 HR0.out x7_1 p205 q205
   cases e205
   replace hx205_0 := pw_cell_below HB.out hx205_0
   replace hx205_1 := pw_cell_below HB.out hx205_1
   replace p205 := eq_true p205
   replace q205 := eq_true q205
   go_wp2_with (first | ((with_reducible refine gate_dst (N := 4) rfl ?_); refine bx_ 4 #[.int .i64 0, .int .i64 0] 48 ?_; intro gb206 hg w22 hbox hb; have n0_ := aM (below_step qz1 hb); have n1_ := aM (hbox); have n2_ := aM ((by rw [hg]; exact (below_size qz1) : w.heap.size ≤ gb206)); have n3_ := aM ((by rw [hg]; exact (below_size qz1) : w.heap.size ≤ gb206)); clear HB; have HB := n0_; have BK206 := n1_; have GW206 := n2_; have GE206 := n3_; clear n0_ n1_ n2_ n3_; clear hb hbox hg; have hcz23_0 := bc0_ BK206.out; have hcz23_1 := bc1_ BK206.out; have hfz23_0 := blk_frozen BK206.out 0; have hfz23_1 := blk_frozen BK206.out 1) | (go_at_call 64; (with_reducible refine (impl_in.calls ((rd_T48 l0 x7_1).f0) 1 50 false _ A5.out).mono ?_); rintro e w' ⟨rfl, ⟨nd, rfl⟩⟩; (try first | exact ⟨rfl, _, World.drewN_drewN _ _ _⟩ | exact ⟨rfl, _, Eq.trans (World.drewN_drewN _ _ _) (congrArg (World.drewN _) (Nat.add_assoc _ _ _))⟩)))
   repeat (go_quiet (first | ((with_reducible refine gate_dst (N := 4) rfl ?_); refine bx_ 4 #[.int .i64 0, .int .i64 0] 48 ?_; intro gb206 hg w22 hbox hb; have n0_ := aM (below_step qz1 hb); have n1_ := aM (hbox); have n2_ := aM ((by rw [hg]; exact (below_size qz1) : w.heap.size ≤ gb206)); have n3_ := aM ((by rw [hg]; exact (below_size qz1) : w.heap.size ≤ gb206)); clear HB; have HB := n0_; have BK206 := n1_; have GW206 := n2_; have GE206 := n3_; clear n0_ n1_ n2_ n3_; clear hb hbox hg; have hcz23_0 := bc0_ BK206.out; have hcz23_1 := bc1_ BK206.out; have hfz23_0 := blk_frozen BK206.out 0; have hfz23_1 := blk_frozen BK206.out 1) | (go_at_call 64; (with_reducible refine (impl_in.calls ((rd_T48 l0 x7_1).f0) 1 50 false _ A5.out).mono ?_); rintro e w' ⟨rfl, ⟨nd, rfl⟩⟩; (try first | exact ⟨rfl, _, World.drewN_drewN _ _ _⟩ | exact ⟨rfl, _, Eq.trans (World.drewN_drewN _ _ _) (congrArg (World.drewN _) (Nat.add_assoc _ _ _))⟩))); try go_wp2_with (first | ((with_reducible refine gate_dst (N := 4) rfl ?_); refine bx_ 4 #[.int .i64 0, .int .i64 0] 48 ?_; intro gb206 hg w22 hbox hb; have n0_ := aM (below_step qz1 hb); have n1_ := aM (hbox); have n2_ := aM ((by rw [hg]; exact (below_size qz1) : w.heap.size ≤ gb206)); have n3_ := aM ((by rw [hg]; exact (below_size qz1) : w.heap.size ≤ gb206)); clear HB; have HB := n0_; have BK206 := n1_; have GW206 := n2_; have GE206 := n3_; clear n0_ n1_ n2_ n3_; clear hb hbox hg; have hcz23_0 := bc0_ BK206.out; have hcz23_1 := bc1_ BK206.out; have hfz23_0 := blk_frozen BK206.out 0; have hfz23_1 := blk_frozen BK206.out 1) | (go_at_call 64; (with_reducible refine (impl_in.calls ((rd_T48 l0 x7_1).f0) 1 50 false _ A5.out).mono ?_); rintro e w' ⟨rfl, ⟨nd, rfl⟩⟩; (try first | exact ⟨rfl, _, World.drewN_drewN _ _ _⟩ | exact ⟨rfl, _, Eq.trans (World.drewN_drewN _ _ _) (congrArg (World.drewN _) (Nat.add_assoc _ _ _))⟩))))
   go_ret
   exact ⟨by first | rfl | (simp [errW_none, errW_some] <;> rfl) | (simp [*, errW_none, errW_some] <;> rfl), by repeat (first | (with_reducible first | exact HB.out | apply below_alloc | apply pw_below_drewN | apply below_drew1 | refine below_set ?_ GE206.out) | exact HB.out)⟩
   }
   }
   {
   rw [if_neg c4] at H
   exact absurd H (by simp)
   }
   }
   {
   rw [if_neg c3] at H
   exact absurd H (by simp)
   }
   }
   {
   rw [if_neg c2] at H
   have c2b0 := decide_eq_false c2
   clear c2
   obtain rfl := Option.some.inj H
   simp only [Option.some.injEq, Prod.mk.injEq] at H
   obtain ⟨rfl⟩ := H
   go_wp2
   repeat (go_quiet (fail); try go_wp2)
   go_ret
   exact ⟨by first | rfl | (simp [errW_none, errW_some] <;> rfl) | (simp [*, errW_none, errW_some] <;> rfl), by repeat (first | (with_reducible first | exact HB.out | apply below_alloc | apply pw_below_drewN | apply below_drew1) | exact HB.out)⟩

   }
/-! ### impl_copyItems: function 78 -/
def impl_copyItems.f (l0 : List (S48)) : Option ((List (S48))) := if ([] : List (S48)).length + l0.length < 8796093022208 then (some (([] : List (S48)) ++ l0)) else (none)
set_option maxHeartbeats 8000000 in
set_option maxRecDepth 100000 in
theorem impl_copyItems.calls (A0 : Option Addr) (c0 : Nat) (l0 : List (S48)) (r : List (S48)) (w : World) (hr0 : Kd.C k48 w A0 l0.length l0) (hc0 : l0.length ≤ c0) (h : impl_copyItems.f l0 = some r) :
  Calls Try.prog 78 #[.slice A0 l0.length c0] w fun e w' => ∃ v0_ : Value, e = .returned (v0_) ∧ Kd.R k48 48 w' w.heap.size (fun _ => True) v0_ r ∧ Below w.heap.size w w' := by
 have HR0 := aM hr0
 have HC0 := aM hc0
 clear hr0 hc0
 have HB := aM (Below.refl w.heap.size w)
 have H : (if ([] : List (S48)).length + l0.length < 8796093022208 then (some (([] : List (S48)) ++ l0)) else (none)) = some r := h
 clear h
 by_cases c2 : ([] : List (S48)).length + l0.length < 8796093022208
 {
 rw [if_pos c2] at H
 have LMc2 := aM c2
 clear c2
 obtain ⟨y210, hy210⟩ : ∃ y_ : List (S48), y_ = (([] : List (S48)) ++ l0) := ⟨_, rfl⟩
 replace H : (some y210) = some r := by first | (rw [hy210]; with_reducible exact H) | (have H2_ := (Option.bind_some _ _).symm.trans H; rw [hy210]; with_reducible exact H2_) | (have H2_ := (Option.bind_some _ _).symm.trans H; with_reducible exact H2_) | with_reducible exact H | (rw [hy210]; exact H) | exact H
 have Ny210 := aM hy210
 clear hy210
 obtain rfl := Option.some.inj H
 simp only [Option.some.injEq, Prod.mk.injEq] at H
 obtain ⟨rfl⟩ := H
 go_enter Try.func78, Try.ntmps78
 go_wp2_with (first | ((with_reducible refine gate_builtin (b := .append) (xs := #[.const (.slice none 0 0), .tmp 3]) rfl ?_); at_builtin; refine Kd.R_append_rows k48 (w0 := w) w.heap.size rfl (.const (.slice none 0 0)) (.tmp 3) 40 48 (.agg #[(.int .i64 0), (.int .i64 0)]) 16 rfl Try.underlying40 info48 rfl (by decide) (by omega) (.slice none 0 0) ([] : List (S48)) l0 _ _ _ (fun _ => True) (fun _ => False) rfl rfl ?aO ?aR (fun _ _ h => h) (fun _ h => h.elim) ?aF ?aB ?aS ?aL ?_; (case aR => repeat (first | exact HR0.out | (with_reducible refine Kd.C_alloc ?_ _) | (with_reducible refine Kd.C_drewN ?_ _) | (with_reducible refine Kd.C_drew ?_))); (case aB => exact qz1); (case aF => exact (fun _ _ => trivial)); (case aO => exact ((Kd.R_nil _ _ _ _ (fun _ => True)))); (case aS => exact (below_size qz1)); (case aL => have := LMc2.out; omega); intro v211 w3 ho hb hg hat; rw [← Ny210.out] at ho; have n0_ := aM (hb); have n1_ := aM (ho); clear HB; have HB := n0_; have HO212 := n1_; clear n0_ n1_; clear ho hb hg hat))
 go_ret
 exact ⟨_, by first | rfl | (simp [errW_none, errW_some] <;> rfl) | (simp [*, errW_none, errW_some] <;> rfl), by (with_reducible repeat (first | apply Kd.R_alloc | apply Kd.R_drewN | apply Kd.R_drew)); exact HO212.out, by repeat (first | (with_reducible first | exact HB.out | apply below_alloc | apply pw_below_drewN | apply below_drew1) | exact HB.out)⟩
 }
 {
 rw [if_neg c2] at H
 exact absurd H (by simp)

 }
end Go.Proofs.Yteajnkondkfmgaa.PFnExactPicks
