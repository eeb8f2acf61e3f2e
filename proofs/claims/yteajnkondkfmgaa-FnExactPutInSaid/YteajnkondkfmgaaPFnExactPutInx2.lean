-- Made by a program of this session out of the translation. Lean checks it.
import Derived.Test.YteajnkondkfmgaaPFnExactPutInx0
import Derived.Test.YteajnkondkfmgaaPFnExactPutInx1
namespace Go.Proofs.Yteajnkondkfmgaa.PFnExactPutIn
open Go.RowKit Go.Proofs.YteajnkondkfmgaaW.PrintWords Go.Proofs.YteajnkondkfmgaaW.PrintLast Go.Proofs.YteajnkondkfmgaaW.PrintMore
attribute [local go_sem] max2_int min2_int max_two min_two max_three min_three max_four min_four   -- for this text's walks alone
set_option linter.unusedVariables false
set_option linter.unusedSimpArgs false

/-! ### impl_podOk: function 66 -/
mutual
def impl_podOk.j0 : Nat → Bool → Int → Int → List (S72) → Option (Bool)
  | 0, _, _, _, _ => none
  | k + 1, x20, x116000, x116001, x116002 => if x20 = true then (some false) else (impl_podOk.l0 k x116002 (x116002.length : Int) 0 x116000 x116001 x116002)
def impl_podOk.l0 : Nat → List (S72) → Int → Int → Int → Int → List (S72) → Option (Bool)
  | 0, _, _, _, _, _, _ => none
  | k + 1, x22, x23, x24, x116000, x116001, x116002 => if x24 < x23 then (if 0 ≤ x24 then (if x24 < (x22.length : Int) then ((impl_in.f ((rd_T72 x22 x24).f0) 1 50).bind fun t120 => (if t120 = true then ((impl_in.f ((rd_T72 x22 x24).f1) 1 1000).bind fun t121 => (if t121 = true then ((impl_in.f ((rd_T72 x22 x24).f2) 0 ((rd_T72 x22 x24).f1)).bind fun t122 => (if t122 = true then (if x24 > 0 then (if 0 ≤ (wrap64 (x24 - 1)) then (if (wrap64 (x24 - 1)) < (x116002.length : Int) then (if ((rd_T72 x116002 (wrap64 (x24 - 1))).f0) ≥ ((rd_T72 x22 x24).f0) then (some false) else (impl_podOk.l0 k x22 x23 (wrap64 (x24 + 1)) x116000 x116001 x116002)) else (none)) else (none)) else (impl_podOk.l0 k x22 x23 (wrap64 (x24 + 1)) x116000 x116001 x116002)) else (some false))) else (some false))) else (some false))) else (none)) else (none)) else (some true)
end
def impl_podOk.f (k : Nat) (a0_0 : Int) (a0_1 : Int) (l0_2 : List (S72)) : Option (Bool) := (impl_in.f a0_0 1 999).bind fun t116 => (if t116 = true then ((impl_in.f a0_1 0 99).bind fun t117 => (if t117 = true then (impl_podOk.j0 k (decide ((l0_2.length : Int) > 8)) a0_0 a0_1 l0_2) else (impl_podOk.j0 k true a0_0 a0_1 l0_2))) else (impl_podOk.j0 k true a0_0 a0_1 l0_2))
theorem impl_podOk.mono_l : ∀ k, (∀ y0 y1 y2 y3, LeO (impl_podOk.j0 k y0 y1 y2 y3) (impl_podOk.j0 (k + 1) y0 y1 y2 y3)) ∧ (∀ y0 y1 y2 y3 y4 y5, LeO (impl_podOk.l0 k y0 y1 y2 y3 y4 y5) (impl_podOk.l0 (k + 1) y0 y1 y2 y3 y4 y5))
  | 0 => ⟨fun _ _ _ _ r h => by simp [impl_podOk.j0] at h, fun _ _ _ _ _ _ r h => by simp [impl_podOk.l0] at h⟩
  | k + 1 => by
    obtain ⟨ih0, ih1⟩ := impl_podOk.mono_l k
    refine ⟨?_, ?_⟩
    {
    intro y0 y1 y2 y3
    unfold impl_podOk.j0
    repeat' first
    | (with_reducible exact ih0 _ _ _ _)
    | (with_reducible exact ih1 _ _ _ _ _ _)
    | (with_reducible exact LeO.refl _)
    | (with_reducible exact LeO.none _)
    | (with_reducible refine LeO.ite ?_ ?_)
    | (with_reducible refine LeO.bind ?_ (fun _ => ?_))
    | exact ih0 _ _ _ _
    | exact ih1 _ _ _ _ _ _
    | exact LeO.none _
    | refine LeO.ite ?_ ?_
    | refine LeO.bind ?_ (fun _ => ?_)
    }
    {
    intro y0 y1 y2 y3 y4 y5
    unfold impl_podOk.l0
    repeat' first
    | (with_reducible exact ih0 _ _ _ _)
    | (with_reducible exact ih1 _ _ _ _ _ _)
    | (with_reducible exact LeO.refl _)
    | (with_reducible exact LeO.none _)
    | (with_reducible refine LeO.ite ?_ ?_)
    | (with_reducible refine LeO.bind ?_ (fun _ => ?_))
    | exact ih0 _ _ _ _
    | exact ih1 _ _ _ _ _ _
    | exact LeO.none _
    | refine LeO.ite ?_ ?_
    | refine LeO.bind ?_ (fun _ => ?_)
    }
theorem impl_podOk.mono : ∀ a0 a1 a2 k, LeO (impl_podOk.f k a0 a1 a2) (impl_podOk.f (k + 1) a0 a1 a2) := by
  intro a0 a1 a2 k
  obtain ⟨ih0, ih1⟩ := impl_podOk.mono_l k
  unfold impl_podOk.f
  repeat' first
      | (with_reducible exact ih0 _ _ _ _)
      | (with_reducible exact ih1 _ _ _ _ _ _)
      | (with_reducible exact LeO.refl _)
      | (with_reducible exact LeO.none _)
      | (with_reducible refine LeO.ite ?_ ?_)
      | (with_reducible refine LeO.bind ?_ (fun _ => ?_))
      | exact ih0 _ _ _ _
      | exact ih1 _ _ _ _ _ _
      | exact LeO.none _
      | refine LeO.ite ?_ ?_
      | refine LeO.bind ?_ (fun _ => ?_)
def impl_podOk.T6 : Bool × List (List Nat × List Nat) := (true, [([], []), ([0], [0]), ([1], [1]), ([2], [2]), ([3, 2], [3]), ([4], [4]), ([5, 4], [4, 5]), ([6, 4, 4], [4, 6]), ([7, 4], [4, 7]), ([4, 8], [4, 8]), ([9, 7], [9]), ([10], [10]), ([11, 10], [10, 11]), ([10], [10]), ([13, 10], [10, 13]), ([12, 14, 10, 10], [10, 12, 14]), ([15, 10], [10, 15]), ([10, 16], [10, 16]), ([17, 15], [17]), ([18], [18]), ([19, 18], [18, 19]), ([20, 18, 18], [18, 20]), ([21], [21]), ([22, 21], [21, 22]), ([21], [21]), ([24, 21], [21, 24]), ([23, 25, 21], [21, 23, 25]), ([26, 21], [21, 26]), ([27, 21], [21, 27]), ([21], [21]), ([29, 21], [21, 29]), ([28, 30, 21], [21, 28, 30]), ([21, 31, 18], [18, 21, 31]), ([18, 32], [18, 32])])
def impl_podOk.B6 : List Nat := [0, 1, 3, 7, 15, 31, 63, 127, 255, 511, 1023, 2047, 4095, 2047, 10239, 32767, 65535, 131071, 262143, 524287, 1048575, 2097151, 4194303, 8388607, 4194303, 20971519, 67108863, 134217727, 268435455, 4194303, 541065215, 2147483647, 4294967295, 8589934591]
theorem impl_podOk.tab6 : rtab .any (opsOf Try.f66 6) = impl_podOk.T6 := by kernel_rfl
theorem impl_podOk.bits6 : waitsOk impl_podOk.T6.2 impl_podOk.B6 = true := by kernel_rfl
set_option maxHeartbeats 8000000 in
set_option maxRecDepth 100000 in
theorem impl_podOk.calls (k : Nat) (a0_0 : Int) (a0_1 : Int) (A0_2 : Option Addr) (c0_2 : Nat) (l0_2 : List (S72)) (r : Bool) (w : World) (hr0_2 : Kd.C k72 w A0_2 l0_2.length l0_2) (hc0_2 : l0_2.length ≤ c0_2) (h : impl_podOk.f k a0_0 a0_1 l0_2 = some r) :
    Calls Try.prog 66 #[.agg #[.int .i64 a0_0, .int .i64 a0_1, .slice A0_2 l0_2.length c0_2]] w fun e w' => e = .returned (.bool r) ∧ Below w.heap.size w w' := by
  have hu79 := Try.underlying79
  have hu72 := Try.underlying72
  have HR0_2 := Aside0.mk hr0_2
  have HC0_2 := Aside0.mk hc0_2
  clear hr0_2 hc0_2
  have HB := Aside0.mk (Below.refl w.heap.size w)
  have H : ((impl_in.f a0_0 1 999).bind fun t116 => (if t116 = true then ((impl_in.f a0_1 0 99).bind fun t117 => (if t117 = true then (impl_podOk.j0 k (decide ((l0_2.length : Int) > 8)) a0_0 a0_1 l0_2) else (impl_podOk.j0 k true a0_0 a0_1 l0_2))) else (impl_podOk.j0 k true a0_0 a0_1 l0_2))) = some r := h
  clear h
  have HC2 := Aside0.mk H
  clear H
  go_enter Try.func66, Try.ntmps66
  go_upto_region 1 with (first | ((with_reducible refine gate_dst (N := 1) rfl ?_); (try (refine gate_guard (by rfl) ?_; dsimp only)); refine box_event ?hg (N := 1) ?hd (cs := #[.int .i64 a0_0, .int .i64 a0_1, .slice A0_2 l0_2.length c0_2]) (t := 79) ?hr ?_; (case hd => rfl); (case hg => rfl); (case hr => first | (go_simp; done) | (go_simp; rfl)); intro gb115 hg w3 hbox hb; have n0_ := Aside0.mk (below_step qz1 hb); have n1_ := Aside0.mk (hbox); have n2_ := Aside0.mk ((by rw [hg]; exact (below_size qz1) : w.heap.size ≤ gb115)); have n3_ := Aside0.mk ((by rw [hg]; exact (below_size qz1) : w.heap.size ≤ gb115)); clear HB; have HB := n0_; have BK115 := n1_; have GW115 := n2_; have GE115 := n3_; clear n0_ n1_ n2_ n3_; clear hb hbox hg))
  (try simp only [Act.put, List.setIfInBounds_toArray, List.set_cons_zero, List.set_cons_succ])
  go_cut [20] (fun v20 wc => ∃ (kq : Nat) (x20_1 : Bool), v20 = .bool x20_1 ∧ Aside0 (impl_podOk.j0 kq x20_1 a0_0 a0_1 l0_2 = some r) ∧ Aside0 (kq ≤ k) ∧ Aside0 (wc.heap[gb115]? = some (.cells #[.int .i64 a0_0, .int .i64 a0_1, (.slice A0_2 l0_2.length c0_2)] 79 (0, 0))) ∧ Aside0 (Below w.heap.size w wc))
  case first =>
    have H := HC2.out
    clear HC2
    replace H := Option.bind_eq_some_iff.mp H
    obtain ⟨t116, A40, H⟩ := H
    replace H : (if t116 = true then ((impl_in.f a0_1 0 99).bind fun t117 => (if t117 = true then (impl_podOk.j0 k (decide ((l0_2.length : Int) > 8)) a0_0 a0_1 l0_2) else (impl_podOk.j0 k true a0_0 a0_1 l0_2))) else (impl_podOk.j0 k true a0_0 a0_1 l0_2)) = some r := H
    have A4 := Aside0.mk A40
    clear A40
    by_cases c5 : t116 = true
    {
    subst c5
    have H1 : ((impl_in.f a0_1 0 99).bind fun t117 => (if t117 = true then (impl_podOk.j0 k (decide ((l0_2.length : Int) > 8)) a0_0 a0_1 l0_2) else (impl_podOk.j0 k true a0_0 a0_1 l0_2))) = some r := by rw [if_pos rfl] at H; exact H
    clear H
    have H := H1
    clear H1
    replace H := Option.bind_eq_some_iff.mp H
    obtain ⟨t117, A60, H⟩ := H
    replace H : (if t117 = true then (impl_podOk.j0 k (decide ((l0_2.length : Int) > 8)) a0_0 a0_1 l0_2) else (impl_podOk.j0 k true a0_0 a0_1 l0_2)) = some r := H
    have A6 := Aside0.mk A60
    clear A60
    by_cases c7 : t117 = true
    {
    subst c7
    have H1 : (impl_podOk.j0 k (decide ((l0_2.length : Int) > 8)) a0_0 a0_1 l0_2) = some r := by rw [if_pos rfl] at H; exact H
    clear H
    have H := H1
    clear H1
    have H' := Aside0.mk H
    clear H
    have hcz8_0 : w3.cell? ⟨gb115, 0, none⟩ = some (.int .i64 a0_0) := (blk_cell BK115.out 0).trans rfl
    have hcz8_1 : w3.cell? ⟨gb115, 1, none⟩ = some (.int .i64 a0_1) := (blk_cell BK115.out 1).trans rfl
    have hcz8_2 : w3.cell? ⟨gb115, 2, none⟩ = some (.slice A0_2 l0_2.length c0_2) := (blk_cell BK115.out 2).trans rfl
    have hfz8_0 := blk_frozen BK115.out 0
    have hfz8_1 := blk_frozen BK115.out 1
    have hfz8_2 := blk_frozen BK115.out 2
    go_wp2_with (first | ((with_reducible refine gate_callee (f := 64) rfl ?_); refine goesL_ (some 7) rfl rfl Try.func64 (by kernel_rfl) rfl #[.int .i64 a0_0, .int .i64 1, .int .i64 999] rfl qz2 ?_; (with_reducible refine (impl_in.calls a0_0 1 999 true _ A4.out).mono ?_); rintro e w' ⟨rfl, ⟨nd, rfl⟩⟩; refine ⟨_, rfl, ?_⟩) | (go_at_call 64; (with_reducible refine (impl_in.calls a0_1 0 99 true _ A6.out).mono ?_); rintro e w' ⟨rfl, ⟨nd, rfl⟩⟩))
    go_meet
    case rel => exact ⟨_, (decide ((l0_2.length : Int) > 8)), qz6, H', ⟨by first | omega | exact Nat.le_refl _⟩, ⟨by (with_reducible repeat (first | refine blk_drewN ?_ _ | refine blk_drew ?_ | refine blk_alloc ?_ _)); exact BK115.out⟩, ⟨by repeat (first | (with_reducible first | exact HB.out | apply below_alloc | apply pw_below_drewN | apply below_drew1 | refine below_set ?_ GE115.out) | exact HB.out)⟩⟩
    }
    {
    replace c7 := Bool.eq_false_iff.mpr c7
    subst c7
    have H1 : (impl_podOk.j0 k true a0_0 a0_1 l0_2) = some r := by rw [if_neg (show ¬ (false = true) by decide)] at H; exact H
    clear H
    have H := H1
    clear H1
    have H' := Aside0.mk H
    clear H
    have hcz9_0 : w3.cell? ⟨gb115, 0, none⟩ = some (.int .i64 a0_0) := (blk_cell BK115.out 0).trans rfl
    have hcz9_1 : w3.cell? ⟨gb115, 1, none⟩ = some (.int .i64 a0_1) := (blk_cell BK115.out 1).trans rfl
    have hcz9_2 : w3.cell? ⟨gb115, 2, none⟩ = some (.slice A0_2 l0_2.length c0_2) := (blk_cell BK115.out 2).trans rfl
    have hfz9_0 := blk_frozen BK115.out 0
    have hfz9_1 := blk_frozen BK115.out 1
    have hfz9_2 := blk_frozen BK115.out 2
    go_wp2_with (first | ((with_reducible refine gate_callee (f := 64) rfl ?_); refine goesL_ (some 7) rfl rfl Try.func64 (by kernel_rfl) rfl #[.int .i64 a0_0, .int .i64 1, .int .i64 999] rfl qz2 ?_; (with_reducible refine (impl_in.calls a0_0 1 999 true _ A4.out).mono ?_); rintro e w' ⟨rfl, ⟨nd, rfl⟩⟩; refine ⟨_, rfl, ?_⟩) | (go_at_call 64; (with_reducible refine (impl_in.calls a0_1 0 99 false _ A6.out).mono ?_); rintro e w' ⟨rfl, ⟨nd, rfl⟩⟩))
    go_meet
    case rel => exact ⟨_, (true), qz6, H', ⟨by first | omega | exact Nat.le_refl _⟩, ⟨by (with_reducible repeat (first | refine blk_drewN ?_ _ | refine blk_drew ?_ | refine blk_alloc ?_ _)); exact BK115.out⟩, ⟨by repeat (first | (with_reducible first | exact HB.out | apply below_alloc | apply pw_below_drewN | apply below_drew1 | refine below_set ?_ GE115.out) | exact HB.out)⟩⟩
    }
    }
    {
    replace c5 := Bool.eq_false_iff.mpr c5
    subst c5
    have H1 : (impl_podOk.j0 k true a0_0 a0_1 l0_2) = some r := by rw [if_neg (show ¬ (false = true) by decide)] at H; exact H
    clear H
    have H := H1
    clear H1
    have H' := Aside0.mk H
    clear H
    have hcz10_0 : w3.cell? ⟨gb115, 0, none⟩ = some (.int .i64 a0_0) := (blk_cell BK115.out 0).trans rfl
    have hcz10_1 : w3.cell? ⟨gb115, 1, none⟩ = some (.int .i64 a0_1) := (blk_cell BK115.out 1).trans rfl
    have hcz10_2 : w3.cell? ⟨gb115, 2, none⟩ = some (.slice A0_2 l0_2.length c0_2) := (blk_cell BK115.out 2).trans rfl
    have hfz10_0 := blk_frozen BK115.out 0
    have hfz10_1 := blk_frozen BK115.out 1
    have hfz10_2 := blk_frozen BK115.out 2
    go_wp2_with (first | ((with_reducible refine gate_callee (f := 64) rfl ?_); refine goesL_ (some 7) rfl rfl Try.func64 (by kernel_rfl) rfl #[.int .i64 a0_0, .int .i64 1, .int .i64 999] rfl qz2 ?_; (with_reducible refine (impl_in.calls a0_0 1 999 false _ A4.out).mono ?_); rintro e w' ⟨rfl, ⟨nd, rfl⟩⟩; refine ⟨_, rfl, ?_⟩))
    go_meet
    case rel => exact ⟨_, (true), qz6, H', ⟨by first | omega | exact Nat.le_refl _⟩, ⟨by (with_reducible repeat (first | refine blk_drewN ?_ _ | refine blk_drew ?_ | refine blk_alloc ?_ _)); exact BK115.out⟩, ⟨by repeat (first | (with_reducible first | exact HB.out | apply below_alloc | apply pw_below_drewN | apply below_drew1 | refine below_set ?_ GE115.out) | exact HB.out)⟩⟩
    }
  case rest =>
    clear HC2
    try clear p2
    try clear c5
    try clear c6
    try clear c7
    try clear hcz10_0
    try clear hcz10_1
    try clear hcz10_2
    try clear hcz8_0
    try clear hcz8_1
    try clear hcz8_2
    try clear hcz9_0
    try clear hcz9_1
    try clear hcz9_2
    try clear hfz10_0
    try clear hfz10_1
    try clear hfz10_2
    try clear hfz8_0
    try clear hfz8_1
    try clear hfz8_2
    try clear hfz9_0
    try clear hfz9_1
    try clear hfz9_2
    obtain ⟨kq, x20_1, rfl, HA, HJ1, BK115, HB⟩ := hcut
    cases kq with
    | zero => exact absurd HA.out (by simp [impl_podOk.j0])
    | succ kj1 =>
      have H := HA.out
      clear HA
      simp only [impl_podOk.j0] at H
      by_cases c11 : x20_1 = true
      {
      subst c11
      have H1 : (some false) = some r := by rw [if_pos rfl] at H; exact H
      clear H
      have H := H1
      clear H1
      obtain rfl := Option.some.inj H
      simp only [Option.some.injEq, Prod.mk.injEq] at H
      obtain ⟨rfl⟩ := H
      go_wp2
      go_ret
      exact ⟨by first | rfl | (simp [errW_none, errW_some] <;> rfl) | (simp [*, errW_none, errW_some] <;> rfl), by repeat (first | (with_reducible first | exact HB.out | apply below_alloc | apply pw_below_drewN | apply below_drew1 | refine below_set ?_ GE115.out) | exact HB.out)⟩
      }
      {
      replace c11 := Bool.eq_false_iff.mpr c11
      subst c11
      have H1 : (impl_podOk.l0 kj1 l0_2 (l0_2.length : Int) 0 a0_0 a0_1 l0_2) = some r := by rw [if_neg (show ¬ (false = true) by decide)] at H; exact H
      clear H
      have H := H1
      clear H1
      have H' := Aside0.mk H
      clear H
      have hcz12_0 : wc.cell? ⟨gb115, 0, none⟩ = some (.int .i64 a0_0) := (blk_cell BK115.out 0).trans rfl
      have hcz12_1 : wc.cell? ⟨gb115, 1, none⟩ = some (.int .i64 a0_1) := (blk_cell BK115.out 1).trans rfl
      have hcz12_2 : wc.cell? ⟨gb115, 2, none⟩ = some (.slice A0_2 l0_2.length c0_2) := (blk_cell BK115.out 2).trans rfl
      have hfz12_0 := blk_frozen BK115.out 0
      have hfz12_1 := blk_frozen BK115.out 1
      have hfz12_2 := blk_frozen BK115.out 2
      go_wp2
      go_loopg [24] kj1 (fun kq v24 w' => ∃ (x24_2 : Int), v24 = .int .i64 x24_2 ∧ Aside0 (impl_podOk.l0 kq l0_2 (l0_2.length : Int) x24_2 a0_0 a0_1 l0_2 = some r) ∧ Aside0 (kq ≤ kj1) ∧ Aside0 (w'.heap[gb115]? = some (.cells #[.int .i64 a0_0, .int .i64 a0_1, (.slice A0_2 l0_2.length c0_2)] 79 (0, 0))) ∧ Aside0 (Below w.heap.size w w'))
      case atStart => exact ⟨(0), qz6, H', ⟨Nat.le_refl _⟩, ⟨by (with_reducible repeat (first | refine blk_drewN ?_ _ | refine blk_drew ?_ | refine blk_alloc ?_ _)); exact BK115.out⟩, ⟨by repeat (first | (with_reducible first | exact HB.out | apply below_alloc | apply pw_below_drewN | apply below_drew1 | refine below_set ?_ GE115.out) | exact HB.out)⟩⟩
      case round =>
        clear H'
        try clear c1
        try clear p2
        try clear c5
        try clear c6
        try clear c7
        try clear c11
        try clear hcz10_0
        try clear hcz10_1
        try clear hcz10_2
        try clear hcz12_0
        try clear hcz12_1
        try clear hcz12_2
        try clear hcz8_0
        try clear hcz8_1
        try clear hcz8_2
        try clear hcz9_0
        try clear hcz9_1
        try clear hcz9_2
        try clear hfz10_0
        try clear hfz10_1
        try clear hfz10_2
        try clear hfz12_0
        try clear hfz12_1
        try clear hfz12_2
        try clear hfz8_0
        try clear hfz8_1
        try clear hfz8_2
        try clear hfz9_0
        try clear hfz9_1
        try clear hfz9_2
        try clear p2
        obtain ⟨x24_2, rfl, HA, HK2, BK115, HB⟩ := hrel
        cases gk with
        | zero => exact absurd HA.out (by simp [impl_podOk.l0])
        | succ k2 =>
          have H := HA.out
          clear HA
          simp only [impl_podOk.l0] at H
          by_cases c13 : x24_2 < (l0_2.length : Int)
          {
          rw [if_pos c13] at H
          have c13b0 : decide (x24_2 < (l0_2.length : Int)) = true := decide_eq_true c13
          clear c13
          by_cases c14 : 0 ≤ x24_2
          {
          rw [if_pos c14] at H
          have c14b0 : decide (0 ≤ x24_2) = true := decide_eq_true c14
          clear c14
          by_cases c15 : x24_2 < (l0_2.length : Int)
          {
          rw [if_pos c15] at H
          have c15b0 : decide (x24_2 < (l0_2.length : Int)) = true := decide_eq_true c15
          clear c15
          replace H := Option.bind_eq_some_iff.mp H
          obtain ⟨t120, A160, H⟩ := H
          replace H : (if t120 = true then ((impl_in.f ((rd_T72 l0_2 x24_2).f1) 1 1000).bind fun t121 => (if t121 = true then ((impl_in.f ((rd_T72 l0_2 x24_2).f2) 0 ((rd_T72 l0_2 x24_2).f1)).bind fun t122 => (if t122 = true then (if x24_2 > 0 then (if 0 ≤ (wrap64 (x24_2 - 1)) then (if (wrap64 (x24_2 - 1)) < (l0_2.length : Int) then (if ((rd_T72 l0_2 (wrap64 (x24_2 - 1))).f0) ≥ ((rd_T72 l0_2 x24_2).f0) then (some false) else (impl_podOk.l0 k2 l0_2 (l0_2.length : Int) (wrap64 (x24_2 + 1)) a0_0 a0_1 l0_2)) else (none)) else (none)) else (impl_podOk.l0 k2 l0_2 (l0_2.length : Int) (wrap64 (x24_2 + 1)) a0_0 a0_1 l0_2)) else (some false))) else (some false))) else (some false)) = some r := H
          have A16 := Aside0.mk A160
          clear A160
          by_cases c17 : t120 = true
          {
          subst c17
          have H1 : ((impl_in.f ((rd_T72 l0_2 x24_2).f1) 1 1000).bind fun t121 => (if t121 = true then ((impl_in.f ((rd_T72 l0_2 x24_2).f2) 0 ((rd_T72 l0_2 x24_2).f1)).bind fun t122 => (if t122 = true then (if x24_2 > 0 then (if 0 ≤ (wrap64 (x24_2 - 1)) then (if (wrap64 (x24_2 - 1)) < (l0_2.length : Int) then (if ((rd_T72 l0_2 (wrap64 (x24_2 - 1))).f0) ≥ ((rd_T72 l0_2 x24_2).f0) then (some false) else (impl_podOk.l0 k2 l0_2 (l0_2.length : Int) (wrap64 (x24_2 + 1)) a0_0 a0_1 l0_2)) else (none)) else (none)) else (impl_podOk.l0 k2 l0_2 (l0_2.length : Int) (wrap64 (x24_2 + 1)) a0_0 a0_1 l0_2)) else (some false))) else (some false))) = some r := by rw [if_pos rfl] at H; exact H
          clear H
          have H := H1
          clear H1
          replace H := Option.bind_eq_some_iff.mp H
          obtain ⟨t121, A180, H⟩ := H
          replace H : (if t121 = true then ((impl_in.f ((rd_T72 l0_2 x24_2).f2) 0 ((rd_T72 l0_2 x24_2).f1)).bind fun t122 => (if t122 = true then (if x24_2 > 0 then (if 0 ≤ (wrap64 (x24_2 - 1)) then (if (wrap64 (x24_2 - 1)) < (l0_2.length : Int) then (if ((rd_T72 l0_2 (wrap64 (x24_2 - 1))).f0) ≥ ((rd_T72 l0_2 x24_2).f0) then (some false) else (impl_podOk.l0 k2 l0_2 (l0_2.length : Int) (wrap64 (x24_2 + 1)) a0_0 a0_1 l0_2)) else (none)) else (none)) else (impl_podOk.l0 k2 l0_2 (l0_2.length : Int) (wrap64 (x24_2 + 1)) a0_0 a0_1 l0_2)) else (some false))) else (some false)) = some r := H
          have A18 := Aside0.mk A180
          clear A180
          by_cases c19 : t121 = true
          {
          subst c19
          have H1 : ((impl_in.f ((rd_T72 l0_2 x24_2).f2) 0 ((rd_T72 l0_2 x24_2).f1)).bind fun t122 => (if t122 = true then (if x24_2 > 0 then (if 0 ≤ (wrap64 (x24_2 - 1)) then (if (wrap64 (x24_2 - 1)) < (l0_2.length : Int) then (if ((rd_T72 l0_2 (wrap64 (x24_2 - 1))).f0) ≥ ((rd_T72 l0_2 x24_2).f0) then (some false) else (impl_podOk.l0 k2 l0_2 (l0_2.length : Int) (wrap64 (x24_2 + 1)) a0_0 a0_1 l0_2)) else (none)) else (none)) else (impl_podOk.l0 k2 l0_2 (l0_2.length : Int) (wrap64 (x24_2 + 1)) a0_0 a0_1 l0_2)) else (some false))) = some r := by rw [if_pos rfl] at H; exact H
          clear H
          have H := H1
          clear H1
          replace H := Option.bind_eq_some_iff.mp H
          obtain ⟨t122, A200, H⟩ := H
          replace H : (if t122 = true then (if x24_2 > 0 then (if 0 ≤ (wrap64 (x24_2 - 1)) then (if (wrap64 (x24_2 - 1)) < (l0_2.length : Int) then (if ((rd_T72 l0_2 (wrap64 (x24_2 - 1))).f0) ≥ ((rd_T72 l0_2 x24_2).f0) then (some false) else (impl_podOk.l0 k2 l0_2 (l0_2.length : Int) (wrap64 (x24_2 + 1)) a0_0 a0_1 l0_2)) else (none)) else (none)) else (impl_podOk.l0 k2 l0_2 (l0_2.length : Int) (wrap64 (x24_2 + 1)) a0_0 a0_1 l0_2)) else (some false)) = some r := H
          have A20 := Aside0.mk A200
          clear A200
          by_cases c21 : t122 = true
          {
          subst c21
          have H1 : (if x24_2 > 0 then (if 0 ≤ (wrap64 (x24_2 - 1)) then (if (wrap64 (x24_2 - 1)) < (l0_2.length : Int) then (if ((rd_T72 l0_2 (wrap64 (x24_2 - 1))).f0) ≥ ((rd_T72 l0_2 x24_2).f0) then (some false) else (impl_podOk.l0 k2 l0_2 (l0_2.length : Int) (wrap64 (x24_2 + 1)) a0_0 a0_1 l0_2)) else (none)) else (none)) else (impl_podOk.l0 k2 l0_2 (l0_2.length : Int) (wrap64 (x24_2 + 1)) a0_0 a0_1 l0_2)) = some r := by rw [if_pos rfl] at H; exact H
          clear H
          have H := H1
          clear H1
          by_cases c22 : x24_2 > 0
          {
          rw [if_pos c22] at H
          have c22b0 : decide (0 < x24_2) = true := decide_eq_true c22
          clear c22
          obtain ⟨ji23, hji23⟩ : ∃ j_ : Int, (wrap64 (x24_2 - 1)) = j_ := ⟨_, rfl⟩
          replace H : (if 0 ≤ (ji23) then (if (ji23) < (l0_2.length : Int) then (if ((rd_T72 l0_2 (ji23)).f0) ≥ ((rd_T72 l0_2 x24_2).f0) then (some false) else (impl_podOk.l0 k2 l0_2 (l0_2.length : Int) (wrap64 (x24_2 + 1)) a0_0 a0_1 l0_2)) else (none)) else (none)) = some r := by first | (rw [hji23] at H; exact H) | (simp only [hji23] at H ⊢; exact H)
          (try rw [hji23] at A16)
          (try rw [hji23] at A18)
          (try rw [hji23] at A20)
          have hji23w : (IntKind.i64.wrap (x24_2 - 1)) = ji23 := (i64_w _).trans hji23
          by_cases c24 : 0 ≤ (ji23)
          {
          rw [if_pos c24] at H
          have c24b0 : decide (0 ≤ (ji23)) = true := decide_eq_true c24
          clear c24
          by_cases c25 : (ji23) < (l0_2.length : Int)
          {
          rw [if_pos c25] at H
          have c25b0 : decide ((ji23) < (l0_2.length : Int)) = true := decide_eq_true c25
          clear c25
          by_cases c26 : ((rd_T72 l0_2 (ji23)).f0) ≥ ((rd_T72 l0_2 x24_2).f0)
          {
          rw [if_pos c26] at H
          have c26b0 : decide (((rd_T72 l0_2 x24_2).f0) ≤ ((rd_T72 l0_2 (ji23)).f0)) = true := decide_eq_true c26
          clear c26
          obtain rfl := Option.some.inj H
          simp only [Option.some.injEq, Prod.mk.injEq] at H
          obtain ⟨rfl⟩ := H
          have p118 : 0 ≤ (x24_2 : Int) := of_decide_eq_true qz3
          have q118 : x24_2 < (l0_2.length : Int) := of_decide_eq_true qz3
          obtain ⟨ad118, e118, hx118_0, hx118_1, hx118_2⟩ := at_T72 HR0_2.out x24_2 p118 q118
          cases e118
          replace hx118_0 := (HB.out.cell (World.block_lt_of_cell? w _ hx118_0)).trans hx118_0
          replace hx118_1 := (HB.out.cell (World.block_lt_of_cell? w _ hx118_1)).trans hx118_1
          replace hx118_2 := (HB.out.cell (World.block_lt_of_cell? w _ hx118_2)).trans hx118_2
          replace p118 := eq_true p118
          replace q118 := eq_true q118
          try go_wp2_with (first | ((with_reducible refine gate_dst (N := 4) rfl ?_); (try (refine gate_guard (by rfl) ?_; dsimp only)); refine box_event ?hg (N := 4) ?hd (cs := #[.int .i64 0, .int .i64 0, .int .i64 0]) (t := 72) ?hr ?_; (case hd => rfl); (case hg => rfl); (case hr => first | (go_simp; done) | (go_simp; rfl)); intro gb119 hg w27 hbox hb; have n0_ := Aside0.mk (blk_below (g := gb115) (o := .cells #[.int .i64 a0_0, .int .i64 a0_1, .slice (some ad118) l0_2.length c0_2] 79 (0, 0)) qz12 hb); have n1_ := Aside0.mk (below_step qz8 hb); have n2_ := Aside0.mk (hbox); have n3_ := Aside0.mk ((by rw [hg]; exact (below_size qz8) : w.heap.size ≤ gb119)); have n4_ := Aside0.mk ((by rw [hg]; exact (below_size qz8) : w.heap.size ≤ gb119)); have n5_ := Aside0.mk ((by rw [hg]; exact Nat.ne_of_lt (blk_lt (g := gb115) (o := .cells #[.int .i64 a0_0, .int .i64 a0_1, .slice (some ad118) l0_2.length c0_2] 79 (0, 0)) qz12) : gb115 ≠ gb119)); have n6_ := Aside0.mk ((by rw [hg]; exact Nat.ne_of_gt (blk_lt (g := gb115) (o := .cells #[.int .i64 a0_0, .int .i64 a0_1, .slice (some ad118) l0_2.length c0_2] 79 (0, 0)) qz12) : gb119 ≠ gb115)); clear BK115; clear HB; have BK115 := n0_; have HB := n1_; have BK119 := n2_; have GW119 := n3_; have GE119 := n4_; have NB115_119 := n5_; have NB119_115 := n6_; clear n0_ n1_ n2_ n3_ n4_ n5_ n6_; clear hb hbox hg; have hnb28 := NB119_115.out; have hnc28 := NB115_119.out; have hcz29_0 : w27.cell? ⟨gb119, 0, none⟩ = some (.int .i64 0) := (blk_cell BK119.out 0).trans rfl; have hcz29_1 : w27.cell? ⟨gb119, 1, none⟩ = some (.int .i64 0) := (blk_cell BK119.out 1).trans rfl; have hcz29_2 : w27.cell? ⟨gb119, 2, none⟩ = some (.int .i64 0) := (blk_cell BK119.out 2).trans rfl; have hfz29_0 := blk_frozen BK119.out 0; have hfz29_1 := blk_frozen BK119.out 1; have hfz29_2 := blk_frozen BK119.out 2))
          generalize hq_ : (((w27.setCell ⟨gb119, 0, none⟩ (.int .i64 ((rd_T72 l0_2 x24_2).f0))).setCell ⟨gb119, 1, none⟩ (.int .i64 ((rd_T72 l0_2 x24_2).f1))).setCell ⟨gb119, 2, none⟩ (.int .i64 ((rd_T72 l0_2 x24_2).f2))) = w30
          have n0_ : Aside0 (w30.heap[gb115]? = some (.cells #[.int .i64 a0_0, .int .i64 a0_1, .slice (some ad118) l0_2.length c0_2] 79 (0, 0))) := ⟨by rw [← hq_]; exact qz7⟩
          have n1_ : Aside0 (w30.heap[gb119]? = some (.cells #[.int .i64 ((rd_T72 l0_2 x24_2).f0), .int .i64 ((rd_T72 l0_2 x24_2).f1), .int .i64 ((rd_T72 l0_2 x24_2).f2)] 72 (0, 0))) := ⟨by rw [← hq_]; exact (by (with_reducible repeat (first | refine blk_drewN ?_ _ | refine blk_drew ?_ | refine blk_alloc ?_ _)); refine blk_put (cs := #[.int .i64 ((rd_T72 l0_2 x24_2).f0), .int .i64 ((rd_T72 l0_2 x24_2).f1), .int .i64 0]) ?_ 2 _ rfl; (with_reducible repeat (first | refine blk_drewN ?_ _ | refine blk_drew ?_ | refine blk_alloc ?_ _)); refine blk_put (cs := #[.int .i64 ((rd_T72 l0_2 x24_2).f0), .int .i64 0, .int .i64 0]) ?_ 1 _ rfl; (with_reducible repeat (first | refine blk_drewN ?_ _ | refine blk_drew ?_ | refine blk_alloc ?_ _)); refine blk_put (cs := #[.int .i64 0, .int .i64 0, .int .i64 0]) ?_ 0 _ rfl; (with_reducible repeat (first | refine blk_drewN ?_ _ | refine blk_drew ?_ | refine blk_alloc ?_ _)); exact BK119.out)⟩
          have n2_ : Aside0 (Below w.heap.size w w30) := ⟨by rw [← hq_]; exact (by repeat (first | (with_reducible first | exact HB.out | apply below_alloc | apply pw_below_drewN | apply below_drew1 | refine below_set ?_ GE115.out | refine below_set ?_ GE119.out) | exact HB.out))⟩
          (try clear BK115)
          (try clear BK119)
          (try clear HB)
          clear hq_
          have BK115 := n0_
          have BK119 := n1_
          have HB := n2_
          clear n0_ n1_ n2_
          have n0_ := Aside0.mk (blk_drew BK115.out)
          have n1_ := Aside0.mk (blk_drew BK119.out)
          have n2_ := Aside0.mk (below_drew1 HB.out)
          clear BK115
          clear BK119
          clear HB
          have BK115 := n0_
          have BK119 := n1_
          have HB := n2_
          clear n0_ n1_ n2_
          have p123 : 0 ≤ ((ji23) : Int) := of_decide_eq_true qz3
          have q123 : (ji23) < (l0_2.length : Int) := of_decide_eq_true qz3
          obtain ⟨ad123, e123, hx123_0, hx123_1, hx123_2⟩ := at_T72 HR0_2.out (ji23) p123 q123
          have hw123_2 := hx123_2
          have hw123_1 := hx123_1
          have hw123_0 := hx123_0
          obtain rfl : ad118 = ad123 := (by injection e123)
          replace hx123_0 := (HB.out.cell (World.block_lt_of_cell? w _ hx123_0)).trans hx123_0
          replace hx123_1 := (HB.out.cell (World.block_lt_of_cell? w _ hx123_1)).trans hx123_1
          replace hx123_2 := (HB.out.cell (World.block_lt_of_cell? w _ hx123_2)).trans hx123_2
          replace p123 := eq_true p123
          replace q123 := eq_true q123
          refine start_ (n := 34) (S := fun w' => w'.cell? ⟨gb119, 0, none⟩ = some (.int .i64 ((rd_T72 l0_2 x24_2).f0)) ∧ w'.cell? ⟨gb119, 1, none⟩ = some (.int .i64 ((rd_T72 l0_2 x24_2).f1)) ∧ w'.cell? ⟨gb119, 2, none⟩ = some (.int .i64 ((rd_T72 l0_2 x24_2).f2)) ∧ w'.cell? ⟨gb115, 0, none⟩ = some (.int .i64 a0_0) ∧ w'.cell? ⟨gb115, 1, none⟩ = some (.int .i64 a0_1) ∧ w'.cell? ⟨gb115, 2, none⟩ = some (.slice (some ad118) l0_2.length c0_2) ∧ w'.cell? (ad118.add (((ji23)).toNat * 3)) = some (.int .i64 ((rd_T72 l0_2 (ji23)).f0)) ∧ w'.cell? ⟨(ad118.add (((ji23)).toNat * 3)).block, (ad118.add (((ji23)).toNat * 3)).off + 1, none⟩ = some (.int .i64 ((rd_T72 l0_2 (ji23)).f1)) ∧ w'.cell? ⟨(ad118.add (((ji23)).toNat * 3)).block, (ad118.add (((ji23)).toNat * 3)).off + 2, none⟩ = some (.int .i64 ((rd_T72 l0_2 (ji23)).f2))) (ds := []) #[false, false, false, false, false, false, false, false, false, false, false, false, false, false, false, false, false, false, false, false, false, false, false, false, false, false, false, false, false, false, false, false, false, false] (by kernel_rfl) rfl rfl ⟨(blk_cell BK119.out 0).trans rfl, (blk_cell BK119.out 1).trans rfl, (blk_cell BK119.out 2).trans rfl, (blk_cell BK115.out 0).trans rfl, (blk_cell BK115.out 1).trans rfl, (blk_cell BK115.out 2).trans rfl, ((HB.out.cell (World.block_lt_of_cell? w _ hw123_0)).trans hw123_0), ((HB.out.cell (World.block_lt_of_cell? w _ hw123_1)).trans hw123_1), ((HB.out.cell (World.block_lt_of_cell? w _ hw123_2)).trans hw123_2)⟩ (fun hHeld => ?_); refine with_tabW impl_podOk.tab6 impl_podOk.bits6 (fun HT_ HW_ => ?_)
          generalize w30.drew = w31 at BK115 BK119 HB hx123_0 hx123_1 hx123_2 hHeld ⊢
          refine pure_ (i := 0) (N := some 29) (v := ?_) (a' := ?_) (bqz 34 1) rfl rfl qza qzd (Or.inl ⟨by rfl, ?_⟩) ?_ ?_
          rotate_left
          {
          intro w'
          go_simp
          with_reducible rfl
          }
          rotate_left
          {
          simp only [qzs]
          rfl
          }
          refine take_ (i := 1) (N := some 30) (v := ?_) (a' := ?_) (bqz 34 3) rfl rfl qzb qzd (Or.inl ⟨by rfl, ?_⟩) hHeld ?_ ?_
          rotate_left
          {
          rintro w' ⟨s0, s1, s2, s3, s4, s5, s6, s7, s8⟩
          go_simp
          with_reducible rfl
          }
          rotate_left
          {
          simp only [qzs]
          rfl
          }
          refine one_ (i := 2) (N := some 31) (bqz 34 7) rfl rfl qzc (by decide) (fun K hK => ?_)
          refine goes_ Try.func64 (by kernel_rfl) rfl #[.int .i64 ((rd_T72 l0_2 x24_2).f0), .int .i64 1, .int .i64 50] (by rfl) rfl rfl qz2 ?_
          with_reducible refine (impl_in.calls ((rd_T72 l0_2 x24_2).f0) 1 50 true _ A16.out).mono ?_
          rintro e w' ⟨rfl, ⟨nd, rfl⟩⟩
          refine ⟨_, rfl, ?_⟩
          refine hK.out _ _ ⟨(blk_cell BK119.out 0).trans rfl, (blk_cell BK119.out 1).trans rfl, (blk_cell BK119.out 2).trans rfl, (blk_cell BK115.out 0).trans rfl, (blk_cell BK115.out 1).trans rfl, (blk_cell BK115.out 2).trans rfl, ((HB.out.cell (World.block_lt_of_cell? w _ hw123_0)).trans hw123_0), ((HB.out.cell (World.block_lt_of_cell? w _ hw123_1)).trans hw123_1), ((HB.out.cell (World.block_lt_of_cell? w _ hw123_2)).trans hw123_2)⟩ (fun hHeld => ?_)
          clear hK K
          refine norm_ (a' := ?_) ?_ ?_
          rotate_left
          {
          show Act.put _ (some 31) _ = _
          simp only [qzs]
          rfl
          }
          refine pure_ (i := 3) (N := some 32) (v := ?_) (a' := ?_) (bqz 34 15) rfl rfl qza qzd (Or.inl ⟨by rfl, ?_⟩) ?_ ?_
          rotate_left
          {
          intro w'
          go_simp
          with_reducible rfl
          }
          rotate_left
          {
          simp only [qzs]
          rfl
          }
          refine pure_ (i := 4) (N := some 33) (v := ?_) (a' := ?_) (bqz 34 31) rfl rfl qza qzd (Or.inl ⟨by rfl, ?_⟩) ?_ ?_
          rotate_left
          {
          intro w'
          go_simp
          with_reducible rfl
          }
          rotate_left
          {
          simp only [qzs]
          rfl
          }
          refine pure_ (i := 5) (N := some 34) (v := ?_) (a' := ?_) (bqz 34 63) rfl rfl qza qzd (Or.inl ⟨by rfl, ?_⟩) ?_ ?_
          rotate_left
          {
          intro w'
          go_simp
          with_reducible rfl
          }
          rotate_left
          {
          simp only [qzs]
          rfl
          }
          refine take_ (i := 6) (N := some 35) (v := ?_) (a' := ?_) (bqz 34 127) rfl rfl qzb qzd (Or.inl ⟨by rfl, ?_⟩) hHeld ?_ ?_
          rotate_left
          {
          rintro w' ⟨s0, s1, s2, s3, s4, s5, s6, s7, s8⟩
          go_simp
          with_reducible rfl
          }
          rotate_left
          {
          simp only [qzs]
          rfl
          }
          refine one_ (i := 7) (N := some 36) (bqz 34 255) rfl rfl qzc (by decide) (fun K hK => ?_)
          refine goes_ Try.func64 (by kernel_rfl) rfl #[.int .i64 ((rd_T72 l0_2 x24_2).f1), .int .i64 1, .int .i64 1000] (by rfl) rfl rfl qz2 ?_
          with_reducible refine (impl_in.calls ((rd_T72 l0_2 x24_2).f1) 1 1000 true _ A18.out).mono ?_
          rintro e w' ⟨rfl, ⟨nd, rfl⟩⟩
          refine ⟨_, rfl, ?_⟩
          refine hK.out _ _ ⟨(blk_cell BK119.out 0).trans rfl, (blk_cell BK119.out 1).trans rfl, (blk_cell BK119.out 2).trans rfl, (blk_cell BK115.out 0).trans rfl, (blk_cell BK115.out 1).trans rfl, (blk_cell BK115.out 2).trans rfl, ((HB.out.cell (World.block_lt_of_cell? w _ hw123_0)).trans hw123_0), ((HB.out.cell (World.block_lt_of_cell? w _ hw123_1)).trans hw123_1), ((HB.out.cell (World.block_lt_of_cell? w _ hw123_2)).trans hw123_2)⟩ (fun hHeld => ?_)
          clear hK K
          refine norm_ (a' := ?_) ?_ ?_
          rotate_left
          {
          show Act.put _ (some 36) _ = _
          simp only [qzs]
          rfl
          }
          refine pure_ (i := 8) (N := some 37) (v := ?_) (a' := ?_) (bqz 34 511) rfl rfl qza qzd (Or.inl ⟨by rfl, ?_⟩) ?_ ?_
          rotate_left
          {
          intro w'
          go_simp
          with_reducible rfl
          }
          rotate_left
          {
          simp only [qzs]
          rfl
          }
          refine pure_ (i := 9) (N := some 38) (v := ?_) (a' := ?_) (bqz 34 1023) rfl rfl qza qzd (Or.inl ⟨by rfl, ?_⟩) ?_ ?_
          rotate_left
          {
          intro w'
          go_simp
          with_reducible rfl
          }
          rotate_left
          {
          simp only [qzs]
          rfl
          }
          refine pure_ (i := 10) (N := some 39) (v := ?_) (a' := ?_) (bqz 34 2047) rfl rfl qza qzd (Or.inl ⟨by rfl, ?_⟩) ?_ ?_
          rotate_left
          {
          intro w'
          go_simp
          with_reducible rfl
          }
          rotate_left
          {
          simp only [qzs]
          rfl
          }
          refine pure_ (i := 11) (N := some 40) (v := ?_) (a' := ?_) (bqz 34 4095) rfl rfl qza qzd (Or.inl ⟨by rfl, ?_⟩) ?_ ?_
          rotate_left
          {
          intro w'
          go_simp
          with_reducible rfl
          }
          rotate_left
          {
          simp only [qzs]
          rfl
          }
          refine pure_ (i := 13) (N := some 42) (v := ?_) (a' := ?_) (bqz 34 12287) rfl rfl qza qzd (Or.inl ⟨by rfl, ?_⟩) ?_ ?_
          rotate_left
          {
          intro w'
          go_simp
          with_reducible rfl
          }
          rotate_left
          {
          simp only [qzs]
          rfl
          }
          refine take_ (i := 12) (N := some 41) (v := ?_) (a' := ?_) (bqz 34 16383) rfl rfl qzb qzd (Or.inl ⟨by rfl, ?_⟩) hHeld ?_ ?_
          rotate_left
          {
          rintro w' ⟨s0, s1, s2, s3, s4, s5, s6, s7, s8⟩
          go_simp
          with_reducible rfl
          }
          rotate_left
          {
          simp only [qzs]
          rfl
          }
          refine take_ (i := 14) (N := some 43) (v := ?_) (a' := ?_) (bqz 34 32767) rfl rfl qzb qzd (Or.inl ⟨by rfl, ?_⟩) hHeld ?_ ?_
          rotate_left
          {
          rintro w' ⟨s0, s1, s2, s3, s4, s5, s6, s7, s8⟩
          go_simp
          with_reducible rfl
          }
          rotate_left
          {
          simp only [qzs]
          rfl
          }
          refine one_ (i := 15) (N := some 44) (bqz 34 65535) rfl rfl qzc (by decide) (fun K hK => ?_)
          refine goes_ Try.func64 (by kernel_rfl) rfl #[.int .i64 ((rd_T72 l0_2 x24_2).f2), .int .i64 0, .int .i64 ((rd_T72 l0_2 x24_2).f1)] (by rfl) rfl rfl qz2 ?_
          with_reducible refine (impl_in.calls ((rd_T72 l0_2 x24_2).f2) 0 ((rd_T72 l0_2 x24_2).f1) true _ A20.out).mono ?_
          rintro e w' ⟨rfl, ⟨nd, rfl⟩⟩
          refine ⟨_, rfl, ?_⟩
          refine hK.out _ _ ⟨(blk_cell BK119.out 0).trans rfl, (blk_cell BK119.out 1).trans rfl, (blk_cell BK119.out 2).trans rfl, (blk_cell BK115.out 0).trans rfl, (blk_cell BK115.out 1).trans rfl, (blk_cell BK115.out 2).trans rfl, ((HB.out.cell (World.block_lt_of_cell? w _ hw123_0)).trans hw123_0), ((HB.out.cell (World.block_lt_of_cell? w _ hw123_1)).trans hw123_1), ((HB.out.cell (World.block_lt_of_cell? w _ hw123_2)).trans hw123_2)⟩ (fun hHeld => ?_)
          clear hK K
          refine norm_ (a' := ?_) ?_ ?_
          rotate_left
          {
          show Act.put _ (some 44) _ = _
          simp only [qzs]
          rfl
          }
          refine pure_ (i := 16) (N := some 45) (v := ?_) (a' := ?_) (bqz 34 131071) rfl rfl qza qzd (Or.inl ⟨by rfl, ?_⟩) ?_ ?_
          rotate_left
          {
          intro w'
          go_simp
          with_reducible rfl
          }
          rotate_left
          {
          simp only [qzs]
          rfl
          }
          refine pure_ (i := 17) (N := some 46) (v := ?_) (a' := ?_) (bqz 34 262143) rfl rfl qza qzd (Or.inl ⟨by rfl, ?_⟩) ?_ ?_
          rotate_left
          {
          intro w'
          go_simp
          with_reducible rfl
          }
          rotate_left
          {
          simp only [qzs]
          rfl
          }
          refine pure_ (i := 18) (N := some 47) (v := ?_) (a' := ?_) (bqz 34 524287) rfl rfl qza qzd (Or.inl ⟨by rfl, ?_⟩) ?_ ?_
          rotate_left
          {
          intro w'
          go_simp
          with_reducible rfl
          }
          rotate_left
          {
          simp only [qzs]
          rfl
          }
          refine pure_ (i := 19) (N := some 48) (v := ?_) (a' := ?_) (bqz 34 1048575) rfl rfl qza qzd (Or.inl ⟨by rfl, ?_⟩) ?_ ?_
          rotate_left
          {
          intro w'
          go_simp
          with_reducible rfl
          }
          rotate_left
          {
          simp only [qzs]
          rfl
          }
          refine pure_ (i := 20) (N := some 49) (v := ?_) (a' := ?_) (bqz 34 2097151) rfl rfl qza qzd (Or.inl ⟨by rfl, ?_⟩) ?_ ?_
          rotate_left
          {
          intro w'
          go_simp
          with_reducible rfl
          }
          rotate_left
          {
          simp only [qzs]
          rfl
          }
          refine pure_ (i := 21) (N := some 50) (v := ?_) (a' := ?_) (bqz 34 4194303) rfl rfl qza qzd (Or.inl ⟨by rfl, ?_⟩) ?_ ?_
          rotate_left
          {
          intro w'
          go_simp
          with_reducible rfl
          }
          rotate_left
          {
          simp only [qzs]
          rfl
          }
          refine pure_ (i := 22) (N := some 51) (v := ?_) (a' := ?_) (bqz 34 8388607) rfl rfl qza qzd (Or.inl ⟨by rfl, ?_⟩) ?_ ?_
          rotate_left
          {
          intro w'
          go_simp
          with_reducible rfl
          }
          rotate_left
          {
          simp only [qzs]
          rfl
          }
          refine pure_ (i := 24) (N := some 53) (v := ?_) (a' := ?_) (bqz 34 25165823) rfl rfl qza qzd (Or.inl ⟨by rfl, ?_⟩) ?_ ?_
          rotate_left
          {
          intro w'
          go_simp
          with_reducible rfl
          }
          rotate_left
          {
          simp only [qzs]
          rfl
          }
          refine pure_ (i := 25) (N := some 54) (v := ?_) (a' := ?_) (bqz 34 58720255) rfl rfl qza qzd (Or.inl ⟨by rfl, ?_⟩) ?_ ?_
          rotate_left
          {
          intro w'
          go_simp
          with_reducible rfl
          }
          rotate_left
          {
          simp only [qzs]
          rfl
          }
          refine pure_ (i := 29) (N := some 58) (v := ?_) (a' := ?_) (bqz 34 595591167) rfl rfl qza qzd (Or.inl ⟨by rfl, ?_⟩) ?_ ?_
          rotate_left
          {
          intro w'
          go_simp
          with_reducible rfl
          }
          rotate_left
          {
          simp only [qzs]
          rfl
          }
          refine take_ (i := 23) (N := some 52) (v := ?_) (a' := ?_) (bqz 34 603979775) rfl rfl qzb qzd (Or.inl ⟨by rfl, ?_⟩) hHeld ?_ ?_
          rotate_left
          {
          rintro w' ⟨s0, s1, s2, s3, s4, s5, s6, s7, s8⟩
          go_simp
          with_reducible rfl
          }
          rotate_left
          {
          simp only [qzs]
          rfl
          }
          refine pure_ (i := 26) (N := some 55) (v := ?_) (a' := ?_) (bqz 34 671088639) rfl rfl qza qzd (Or.inl ⟨by rfl, ?_⟩) ?_ ?_
          rotate_left
          {
          intro w'
          go_simp
          with_reducible rfl
          }
          rotate_left
          {
          simp only [qzs]
          rfl
          }
          refine pure_ (i := 27) (N := some 56) (v := ?_) (a' := ?_) (bqz 34 805306367) rfl rfl qza qzd (Or.inl ⟨by rfl, ?_⟩) ?_ ?_
          rotate_left
          {
          intro w'
          go_simp
          with_reducible rfl
          }
          rotate_left
          {
          simp only [qzs]
          rfl
          }
          refine take_ (i := 28) (N := some 57) (v := ?_) (a' := ?_) (bqz 34 1073741823) rfl rfl qzb qzd (Or.inl ⟨by rfl, ?_⟩) hHeld ?_ ?_
          rotate_left
          {
          rintro w' ⟨s0, s1, s2, s3, s4, s5, s6, s7, s8⟩
          go_simp
          with_reducible rfl
          }
          rotate_left
          {
          simp only [qzs]
          rfl
          }
          refine take_ (i := 30) (N := some 59) (v := ?_) (a' := ?_) (bqz 34 2147483647) rfl rfl qzb qzd (Or.inl ⟨by rfl, ?_⟩) hHeld ?_ ?_
          rotate_left
          {
          rintro w' ⟨s0, s1, s2, s3, s4, s5, s6, s7, s8⟩
          go_simp
          with_reducible rfl
          }
          rotate_left
          {
          simp only [qzs]
          rfl
          }
          refine pure_ (i := 31) (N := some 60) (v := ?_) (a' := ?_) (bqz 34 4294967295) rfl rfl qza qzd (Or.inl ⟨by rfl, ?_⟩) ?_ ?_
          rotate_left
          {
          intro w'
          go_simp
          with_reducible rfl
          }
          rotate_left
          {
          simp only [qzs]
          rfl
          }
          refine pure_ (i := 32) (N := some 61) (v := ?_) (a' := ?_) (bqz 34 8589934591) rfl rfl qza qzd (Or.inl ⟨by rfl, ?_⟩) ?_ ?_
          rotate_left
          {
          intro w'
          go_simp
          with_reducible rfl
          }
          rotate_left
          {
          simp only [qzs]
          rfl
          }
          refine pure_ (i := 33) (N := some 62) (v := ?_) (a' := ?_) (bqz 34 17179869183) rfl rfl qza qzd (Or.inl ⟨by rfl, ?_⟩) ?_ ?_
          rotate_left
          {
          intro w'
          go_simp
          with_reducible rfl
          }
          rotate_left
          {
          simp only [qzs]
          rfl
          }
          refine done_ (done_of HT_.out (by kernel_rfl)) ?_
          try go_wp2
          go_ret
          exact ⟨by first | rfl | (simp [errW_none, errW_some] <;> rfl) | (simp only [← hji23]; first | rfl | (simp [errW_none, errW_some] <;> rfl)) | (simp [*, errW_none, errW_some] <;> rfl), by repeat (first | (with_reducible first | exact HB.out | apply below_alloc | apply pw_below_drewN | apply below_drew1 | refine below_set ?_ GE115.out | refine below_set ?_ GE119.out) | exact HB.out)⟩
          }
          {
          rw [if_neg c26] at H
          have c26b0 : decide (((rd_T72 l0_2 x24_2).f0) ≤ ((rd_T72 l0_2 (ji23)).f0)) = false := decide_eq_false c26
          clear c26
          have H' := Aside0.mk H
          clear H
          have p118 : 0 ≤ (x24_2 : Int) := of_decide_eq_true qz3
          have q118 : x24_2 < (l0_2.length : Int) := of_decide_eq_true qz3
          obtain ⟨ad118, e118, hx118_0, hx118_1, hx118_2⟩ := at_T72 HR0_2.out x24_2 p118 q118
          cases e118
          replace hx118_0 := (HB.out.cell (World.block_lt_of_cell? w _ hx118_0)).trans hx118_0
          replace hx118_1 := (HB.out.cell (World.block_lt_of_cell? w _ hx118_1)).trans hx118_1
          replace hx118_2 := (HB.out.cell (World.block_lt_of_cell? w _ hx118_2)).trans hx118_2
          replace p118 := eq_true p118
          replace q118 := eq_true q118
          try go_wp2_with (first | ((with_reducible refine gate_dst (N := 4) rfl ?_); (try (refine gate_guard (by rfl) ?_; dsimp only)); refine box_event ?hg (N := 4) ?hd (cs := #[.int .i64 0, .int .i64 0, .int .i64 0]) (t := 72) ?hr ?_; (case hd => rfl); (case hg => rfl); (case hr => first | (go_simp; done) | (go_simp; rfl)); intro gb119 hg w32 hbox hb; have n0_ := Aside0.mk (blk_below (g := gb115) (o := .cells #[.int .i64 a0_0, .int .i64 a0_1, .slice (some ad118) l0_2.length c0_2] 79 (0, 0)) qz12 hb); have n1_ := Aside0.mk (below_step qz8 hb); have n2_ := Aside0.mk (hbox); have n3_ := Aside0.mk ((by rw [hg]; exact (below_size qz8) : w.heap.size ≤ gb119)); have n4_ := Aside0.mk ((by rw [hg]; exact (below_size qz8) : w.heap.size ≤ gb119)); have n5_ := Aside0.mk ((by rw [hg]; exact Nat.ne_of_lt (blk_lt (g := gb115) (o := .cells #[.int .i64 a0_0, .int .i64 a0_1, .slice (some ad118) l0_2.length c0_2] 79 (0, 0)) qz12) : gb115 ≠ gb119)); have n6_ := Aside0.mk ((by rw [hg]; exact Nat.ne_of_gt (blk_lt (g := gb115) (o := .cells #[.int .i64 a0_0, .int .i64 a0_1, .slice (some ad118) l0_2.length c0_2] 79 (0, 0)) qz12) : gb119 ≠ gb115)); clear BK115; clear HB; have BK115 := n0_; have HB := n1_; have BK119 := n2_; have GW119 := n3_; have GE119 := n4_; have NB115_119 := n5_; have NB119_115 := n6_; clear n0_ n1_ n2_ n3_ n4_ n5_ n6_; clear hb hbox hg; have hnb33 := NB119_115.out; have hnc33 := NB115_119.out; have hcz34_0 : w32.cell? ⟨gb119, 0, none⟩ = some (.int .i64 0) := (blk_cell BK119.out 0).trans rfl; have hcz34_1 : w32.cell? ⟨gb119, 1, none⟩ = some (.int .i64 0) := (blk_cell BK119.out 1).trans rfl; have hcz34_2 : w32.cell? ⟨gb119, 2, none⟩ = some (.int .i64 0) := (blk_cell BK119.out 2).trans rfl; have hfz34_0 := blk_frozen BK119.out 0; have hfz34_1 := blk_frozen BK119.out 1; have hfz34_2 := blk_frozen BK119.out 2))
          generalize hq_ : (((w32.setCell ⟨gb119, 0, none⟩ (.int .i64 ((rd_T72 l0_2 x24_2).f0))).setCell ⟨gb119, 1, none⟩ (.int .i64 ((rd_T72 l0_2 x24_2).f1))).setCell ⟨gb119, 2, none⟩ (.int .i64 ((rd_T72 l0_2 x24_2).f2))) = w35
          have n0_ : Aside0 (w35.heap[gb115]? = some (.cells #[.int .i64 a0_0, .int .i64 a0_1, .slice (some ad118) l0_2.length c0_2] 79 (0, 0))) := ⟨by rw [← hq_]; exact qz7⟩
          have n1_ : Aside0 (w35.heap[gb119]? = some (.cells #[.int .i64 ((rd_T72 l0_2 x24_2).f0), .int .i64 ((rd_T72 l0_2 x24_2).f1), .int .i64 ((rd_T72 l0_2 x24_2).f2)] 72 (0, 0))) := ⟨by rw [← hq_]; exact (by (with_reducible repeat (first | refine blk_drewN ?_ _ | refine blk_drew ?_ | refine blk_alloc ?_ _)); refine blk_put (cs := #[.int .i64 ((rd_T72 l0_2 x24_2).f0), .int .i64 ((rd_T72 l0_2 x24_2).f1), .int .i64 0]) ?_ 2 _ rfl; (with_reducible repeat (first | refine blk_drewN ?_ _ | refine blk_drew ?_ | refine blk_alloc ?_ _)); refine blk_put (cs := #[.int .i64 ((rd_T72 l0_2 x24_2).f0), .int .i64 0, .int .i64 0]) ?_ 1 _ rfl; (with_reducible repeat (first | refine blk_drewN ?_ _ | refine blk_drew ?_ | refine blk_alloc ?_ _)); refine blk_put (cs := #[.int .i64 0, .int .i64 0, .int .i64 0]) ?_ 0 _ rfl; (with_reducible repeat (first | refine blk_drewN ?_ _ | refine blk_drew ?_ | refine blk_alloc ?_ _)); exact BK119.out)⟩
          have n2_ : Aside0 (Below w.heap.size w w35) := ⟨by rw [← hq_]; exact (by repeat (first | (with_reducible first | exact HB.out | apply below_alloc | apply pw_below_drewN | apply below_drew1 | refine below_set ?_ GE115.out | refine below_set ?_ GE119.out) | exact HB.out))⟩
          (try clear BK115)
          (try clear BK119)
          (try clear HB)
          clear hq_
          have BK115 := n0_
          have BK119 := n1_
          have HB := n2_
          clear n0_ n1_ n2_
          have n0_ := Aside0.mk (blk_drew BK115.out)
          have n1_ := Aside0.mk (blk_drew BK119.out)
          have n2_ := Aside0.mk (below_drew1 HB.out)
          clear BK115
          clear BK119
          clear HB
          have BK115 := n0_
          have BK119 := n1_
          have HB := n2_
          clear n0_ n1_ n2_
          have p123 : 0 ≤ ((ji23) : Int) := of_decide_eq_true qz3
          have q123 : (ji23) < (l0_2.length : Int) := of_decide_eq_true qz3
          obtain ⟨ad123, e123, hx123_0, hx123_1, hx123_2⟩ := at_T72 HR0_2.out (ji23) p123 q123
          have hw123_2 := hx123_2
          have hw123_1 := hx123_1
          have hw123_0 := hx123_0
          obtain rfl : ad118 = ad123 := (by injection e123)
          replace hx123_0 := (HB.out.cell (World.block_lt_of_cell? w _ hx123_0)).trans hx123_0
          replace hx123_1 := (HB.out.cell (World.block_lt_of_cell? w _ hx123_1)).trans hx123_1
          replace hx123_2 := (HB.out.cell (World.block_lt_of_cell? w _ hx123_2)).trans hx123_2
          replace p123 := eq_true p123
          replace q123 := eq_true q123
          refine start_ (n := 34) (S := fun w' => w'.cell? ⟨gb119, 0, none⟩ = some (.int .i64 ((rd_T72 l0_2 x24_2).f0)) ∧ w'.cell? ⟨gb119, 1, none⟩ = some (.int .i64 ((rd_T72 l0_2 x24_2).f1)) ∧ w'.cell? ⟨gb119, 2, none⟩ = some (.int .i64 ((rd_T72 l0_2 x24_2).f2)) ∧ w'.cell? ⟨gb115, 0, none⟩ = some (.int .i64 a0_0) ∧ w'.cell? ⟨gb115, 1, none⟩ = some (.int .i64 a0_1) ∧ w'.cell? ⟨gb115, 2, none⟩ = some (.slice (some ad118) l0_2.length c0_2) ∧ w'.cell? (ad118.add (((ji23)).toNat * 3)) = some (.int .i64 ((rd_T72 l0_2 (ji23)).f0)) ∧ w'.cell? ⟨(ad118.add (((ji23)).toNat * 3)).block, (ad118.add (((ji23)).toNat * 3)).off + 1, none⟩ = some (.int .i64 ((rd_T72 l0_2 (ji23)).f1)) ∧ w'.cell? ⟨(ad118.add (((ji23)).toNat * 3)).block, (ad118.add (((ji23)).toNat * 3)).off + 2, none⟩ = some (.int .i64 ((rd_T72 l0_2 (ji23)).f2))) (ds := []) #[false, false, false, false, false, false, false, false, false, false, false, false, false, false, false, false, false, false, false, false, false, false, false, false, false, false, false, false, false, false, false, false, false, false] (by kernel_rfl) rfl rfl ⟨(blk_cell BK119.out 0).trans rfl, (blk_cell BK119.out 1).trans rfl, (blk_cell BK119.out 2).trans rfl, (blk_cell BK115.out 0).trans rfl, (blk_cell BK115.out 1).trans rfl, (blk_cell BK115.out 2).trans rfl, ((HB.out.cell (World.block_lt_of_cell? w _ hw123_0)).trans hw123_0), ((HB.out.cell (World.block_lt_of_cell? w _ hw123_1)).trans hw123_1), ((HB.out.cell (World.block_lt_of_cell? w _ hw123_2)).trans hw123_2)⟩ (fun hHeld => ?_); refine with_tabW impl_podOk.tab6 impl_podOk.bits6 (fun HT_ HW_ => ?_)
          generalize w35.drew = w36 at BK115 BK119 HB hx123_0 hx123_1 hx123_2 hHeld ⊢
          refine pure_ (i := 0) (N := some 29) (v := ?_) (a' := ?_) (bqz 34 1) rfl rfl qza qzd (Or.inl ⟨by rfl, ?_⟩) ?_ ?_
          rotate_left
          {
          intro w'
          go_simp
          with_reducible rfl
          }
          rotate_left
          {
          simp only [qzs]
          rfl
          }
          refine take_ (i := 1) (N := some 30) (v := ?_) (a' := ?_) (bqz 34 3) rfl rfl qzb qzd (Or.inl ⟨by rfl, ?_⟩) hHeld ?_ ?_
          rotate_left
          {
          rintro w' ⟨s0, s1, s2, s3, s4, s5, s6, s7, s8⟩
          go_simp
          with_reducible rfl
          }
          rotate_left
          {
          simp only [qzs]
          rfl
          }
          refine one_ (i := 2) (N := some 31) (bqz 34 7) rfl rfl qzc (by decide) (fun K hK => ?_)
          refine goes_ Try.func64 (by kernel_rfl) rfl #[.int .i64 ((rd_T72 l0_2 x24_2).f0), .int .i64 1, .int .i64 50] (by rfl) rfl rfl qz2 ?_
          with_reducible refine (impl_in.calls ((rd_T72 l0_2 x24_2).f0) 1 50 true _ A16.out).mono ?_
          rintro e w' ⟨rfl, ⟨nd, rfl⟩⟩
          refine ⟨_, rfl, ?_⟩
          refine hK.out _ _ ⟨(blk_cell BK119.out 0).trans rfl, (blk_cell BK119.out 1).trans rfl, (blk_cell BK119.out 2).trans rfl, (blk_cell BK115.out 0).trans rfl, (blk_cell BK115.out 1).trans rfl, (blk_cell BK115.out 2).trans rfl, ((HB.out.cell (World.block_lt_of_cell? w _ hw123_0)).trans hw123_0), ((HB.out.cell (World.block_lt_of_cell? w _ hw123_1)).trans hw123_1), ((HB.out.cell (World.block_lt_of_cell? w _ hw123_2)).trans hw123_2)⟩ (fun hHeld => ?_)
          clear hK K
          refine norm_ (a' := ?_) ?_ ?_
          rotate_left
          {
          show Act.put _ (some 31) _ = _
          simp only [qzs]
          rfl
          }
          refine pure_ (i := 3) (N := some 32) (v := ?_) (a' := ?_) (bqz 34 15) rfl rfl qza qzd (Or.inl ⟨by rfl, ?_⟩) ?_ ?_
          rotate_left
          {
          intro w'
          go_simp
          with_reducible rfl
          }
          rotate_left
          {
          simp only [qzs]
          rfl
          }
          refine pure_ (i := 4) (N := some 33) (v := ?_) (a' := ?_) (bqz 34 31) rfl rfl qza qzd (Or.inl ⟨by rfl, ?_⟩) ?_ ?_
          rotate_left
          {
          intro w'
          go_simp
          with_reducible rfl
          }
          rotate_left
          {
          simp only [qzs]
          rfl
          }
          refine pure_ (i := 5) (N := some 34) (v := ?_) (a' := ?_) (bqz 34 63) rfl rfl qza qzd (Or.inl ⟨by rfl, ?_⟩) ?_ ?_
          rotate_left
          {
          intro w'
          go_simp
          with_reducible rfl
          }
          rotate_left
          {
          simp only [qzs]
          rfl
          }
          refine take_ (i := 6) (N := some 35) (v := ?_) (a' := ?_) (bqz 34 127) rfl rfl qzb qzd (Or.inl ⟨by rfl, ?_⟩) hHeld ?_ ?_
          rotate_left
          {
          rintro w' ⟨s0, s1, s2, s3, s4, s5, s6, s7, s8⟩
          go_simp
          with_reducible rfl
          }
          rotate_left
          {
          simp only [qzs]
          rfl
          }
          refine one_ (i := 7) (N := some 36) (bqz 34 255) rfl rfl qzc (by decide) (fun K hK => ?_)
          refine goes_ Try.func64 (by kernel_rfl) rfl #[.int .i64 ((rd_T72 l0_2 x24_2).f1), .int .i64 1, .int .i64 1000] (by rfl) rfl rfl qz2 ?_
          with_reducible refine (impl_in.calls ((rd_T72 l0_2 x24_2).f1) 1 1000 true _ A18.out).mono ?_
          rintro e w' ⟨rfl, ⟨nd, rfl⟩⟩
          refine ⟨_, rfl, ?_⟩
          refine hK.out _ _ ⟨(blk_cell BK119.out 0).trans rfl, (blk_cell BK119.out 1).trans rfl, (blk_cell BK119.out 2).trans rfl, (blk_cell BK115.out 0).trans rfl, (blk_cell BK115.out 1).trans rfl, (blk_cell BK115.out 2).trans rfl, ((HB.out.cell (World.block_lt_of_cell? w _ hw123_0)).trans hw123_0), ((HB.out.cell (World.block_lt_of_cell? w _ hw123_1)).trans hw123_1), ((HB.out.cell (World.block_lt_of_cell? w _ hw123_2)).trans hw123_2)⟩ (fun hHeld => ?_)
          clear hK K
          refine norm_ (a' := ?_) ?_ ?_
          rotate_left
          {
          show Act.put _ (some 36) _ = _
          simp only [qzs]
          rfl
          }
          refine pure_ (i := 8) (N := some 37) (v := ?_) (a' := ?_) (bqz 34 511) rfl rfl qza qzd (Or.inl ⟨by rfl, ?_⟩) ?_ ?_
          rotate_left
          {
          intro w'
          go_simp
          with_reducible rfl
          }
          rotate_left
          {
          simp only [qzs]
          rfl
          }
          refine pure_ (i := 9) (N := some 38) (v := ?_) (a' := ?_) (bqz 34 1023) rfl rfl qza qzd (Or.inl ⟨by rfl, ?_⟩) ?_ ?_
          rotate_left
          {
          intro w'
          go_simp
          with_reducible rfl
          }
          rotate_left
          {
          simp only [qzs]
          rfl
          }
          refine pure_ (i := 10) (N := some 39) (v := ?_) (a' := ?_) (bqz 34 2047) rfl rfl qza qzd (Or.inl ⟨by rfl, ?_⟩) ?_ ?_
          rotate_left
          {
          intro w'
          go_simp
          with_reducible rfl
          }
          rotate_left
          {
          simp only [qzs]
          rfl
          }
          refine pure_ (i := 11) (N := some 40) (v := ?_) (a' := ?_) (bqz 34 4095) rfl rfl qza qzd (Or.inl ⟨by rfl, ?_⟩) ?_ ?_
          rotate_left
          {
          intro w'
          go_simp
          with_reducible rfl
          }
          rotate_left
          {
          simp only [qzs]
          rfl
          }
          refine pure_ (i := 13) (N := some 42) (v := ?_) (a' := ?_) (bqz 34 12287) rfl rfl qza qzd (Or.inl ⟨by rfl, ?_⟩) ?_ ?_
          rotate_left
          {
          intro w'
          go_simp
          with_reducible rfl
          }
          rotate_left
          {
          simp only [qzs]
          rfl
          }
          refine take_ (i := 12) (N := some 41) (v := ?_) (a' := ?_) (bqz 34 16383) rfl rfl qzb qzd (Or.inl ⟨by rfl, ?_⟩) hHeld ?_ ?_
          rotate_left
          {
          rintro w' ⟨s0, s1, s2, s3, s4, s5, s6, s7, s8⟩
          go_simp
          with_reducible rfl
          }
          rotate_left
          {
          simp only [qzs]
          rfl
          }
          refine take_ (i := 14) (N := some 43) (v := ?_) (a' := ?_) (bqz 34 32767) rfl rfl qzb qzd (Or.inl ⟨by rfl, ?_⟩) hHeld ?_ ?_
          rotate_left
          {
          rintro w' ⟨s0, s1, s2, s3, s4, s5, s6, s7, s8⟩
          go_simp
          with_reducible rfl
          }
          rotate_left
          {
          simp only [qzs]
          rfl
          }
          refine one_ (i := 15) (N := some 44) (bqz 34 65535) rfl rfl qzc (by decide) (fun K hK => ?_)
          refine goes_ Try.func64 (by kernel_rfl) rfl #[.int .i64 ((rd_T72 l0_2 x24_2).f2), .int .i64 0, .int .i64 ((rd_T72 l0_2 x24_2).f1)] (by rfl) rfl rfl qz2 ?_
          with_reducible refine (impl_in.calls ((rd_T72 l0_2 x24_2).f2) 0 ((rd_T72 l0_2 x24_2).f1) true _ A20.out).mono ?_
          rintro e w' ⟨rfl, ⟨nd, rfl⟩⟩
          refine ⟨_, rfl, ?_⟩
          refine hK.out _ _ ⟨(blk_cell BK119.out 0).trans rfl, (blk_cell BK119.out 1).trans rfl, (blk_cell BK119.out 2).trans rfl, (blk_cell BK115.out 0).trans rfl, (blk_cell BK115.out 1).trans rfl, (blk_cell BK115.out 2).trans rfl, ((HB.out.cell (World.block_lt_of_cell? w _ hw123_0)).trans hw123_0), ((HB.out.cell (World.block_lt_of_cell? w _ hw123_1)).trans hw123_1), ((HB.out.cell (World.block_lt_of_cell? w _ hw123_2)).trans hw123_2)⟩ (fun hHeld => ?_)
          clear hK K
          refine norm_ (a' := ?_) ?_ ?_
          rotate_left
          {
          show Act.put _ (some 44) _ = _
          simp only [qzs]
          rfl
          }
          refine pure_ (i := 16) (N := some 45) (v := ?_) (a' := ?_) (bqz 34 131071) rfl rfl qza qzd (Or.inl ⟨by rfl, ?_⟩) ?_ ?_
          rotate_left
          {
          intro w'
          go_simp
          with_reducible rfl
          }
          rotate_left
          {
          simp only [qzs]
          rfl
          }
          refine pure_ (i := 17) (N := some 46) (v := ?_) (a' := ?_) (bqz 34 262143) rfl rfl qza qzd (Or.inl ⟨by rfl, ?_⟩) ?_ ?_
          rotate_left
          {
          intro w'
          go_simp
          with_reducible rfl
          }
          rotate_left
          {
          simp only [qzs]
          rfl
          }
          refine pure_ (i := 18) (N := some 47) (v := ?_) (a' := ?_) (bqz 34 524287) rfl rfl qza qzd (Or.inl ⟨by rfl, ?_⟩) ?_ ?_
          rotate_left
          {
          intro w'
          go_simp
          with_reducible rfl
          }
          rotate_left
          {
          simp only [qzs]
          rfl
          }
          refine pure_ (i := 19) (N := some 48) (v := ?_) (a' := ?_) (bqz 34 1048575) rfl rfl qza qzd (Or.inl ⟨by rfl, ?_⟩) ?_ ?_
          rotate_left
          {
          intro w'
          go_simp
          with_reducible rfl
          }
          rotate_left
          {
          simp only [qzs]
          rfl
          }
          refine pure_ (i := 20) (N := some 49) (v := ?_) (a' := ?_) (bqz 34 2097151) rfl rfl qza qzd (Or.inl ⟨by rfl, ?_⟩) ?_ ?_
          rotate_left
          {
          intro w'
          go_simp
          with_reducible rfl
          }
          rotate_left
          {
          simp only [qzs]
          rfl
          }
          refine pure_ (i := 21) (N := some 50) (v := ?_) (a' := ?_) (bqz 34 4194303) rfl rfl qza qzd (Or.inl ⟨by rfl, ?_⟩) ?_ ?_
          rotate_left
          {
          intro w'
          go_simp
          with_reducible rfl
          }
          rotate_left
          {
          simp only [qzs]
          rfl
          }
          refine pure_ (i := 22) (N := some 51) (v := ?_) (a' := ?_) (bqz 34 8388607) rfl rfl qza qzd (Or.inl ⟨by rfl, ?_⟩) ?_ ?_
          rotate_left
          {
          intro w'
          go_simp
          with_reducible rfl
          }
          rotate_left
          {
          simp only [qzs]
          rfl
          }
          refine pure_ (i := 24) (N := some 53) (v := ?_) (a' := ?_) (bqz 34 25165823) rfl rfl qza qzd (Or.inl ⟨by rfl, ?_⟩) ?_ ?_
          rotate_left
          {
          intro w'
          go_simp
          with_reducible rfl
          }
          rotate_left
          {
          simp only [qzs]
          rfl
          }
          refine pure_ (i := 25) (N := some 54) (v := ?_) (a' := ?_) (bqz 34 58720255) rfl rfl qza qzd (Or.inl ⟨by rfl, ?_⟩) ?_ ?_
          rotate_left
          {
          intro w'
          go_simp
          with_reducible rfl
          }
          rotate_left
          {
          simp only [qzs]
          rfl
          }
          refine pure_ (i := 29) (N := some 58) (v := ?_) (a' := ?_) (bqz 34 595591167) rfl rfl qza qzd (Or.inl ⟨by rfl, ?_⟩) ?_ ?_
          rotate_left
          {
          intro w'
          go_simp
          with_reducible rfl
          }
          rotate_left
          {
          simp only [qzs]
          rfl
          }
          refine take_ (i := 23) (N := some 52) (v := ?_) (a' := ?_) (bqz 34 603979775) rfl rfl qzb qzd (Or.inl ⟨by rfl, ?_⟩) hHeld ?_ ?_
          rotate_left
          {
          rintro w' ⟨s0, s1, s2, s3, s4, s5, s6, s7, s8⟩
          go_simp
          with_reducible rfl
          }
          rotate_left
          {
          simp only [qzs]
          rfl
          }
          refine pure_ (i := 26) (N := some 55) (v := ?_) (a' := ?_) (bqz 34 671088639) rfl rfl qza qzd (Or.inl ⟨by rfl, ?_⟩) ?_ ?_
          rotate_left
          {
          intro w'
          go_simp
          with_reducible rfl
          }
          rotate_left
          {
          simp only [qzs]
          rfl
          }
          refine pure_ (i := 27) (N := some 56) (v := ?_) (a' := ?_) (bqz 34 805306367) rfl rfl qza qzd (Or.inl ⟨by rfl, ?_⟩) ?_ ?_
          rotate_left
          {
          intro w'
          go_simp
          with_reducible rfl
          }
          rotate_left
          {
          simp only [qzs]
          rfl
          }
          refine take_ (i := 28) (N := some 57) (v := ?_) (a' := ?_) (bqz 34 1073741823) rfl rfl qzb qzd (Or.inl ⟨by rfl, ?_⟩) hHeld ?_ ?_
          rotate_left
          {
          rintro w' ⟨s0, s1, s2, s3, s4, s5, s6, s7, s8⟩
          go_simp
          with_reducible rfl
          }
          rotate_left
          {
          simp only [qzs]
          rfl
          }
          refine take_ (i := 30) (N := some 59) (v := ?_) (a' := ?_) (bqz 34 2147483647) rfl rfl qzb qzd (Or.inl ⟨by rfl, ?_⟩) hHeld ?_ ?_
          rotate_left
          {
          rintro w' ⟨s0, s1, s2, s3, s4, s5, s6, s7, s8⟩
          go_simp
          with_reducible rfl
          }
          rotate_left
          {
          simp only [qzs]
          rfl
          }
          refine pure_ (i := 31) (N := some 60) (v := ?_) (a' := ?_) (bqz 34 4294967295) rfl rfl qza qzd (Or.inl ⟨by rfl, ?_⟩) ?_ ?_
          rotate_left
          {
          intro w'
          go_simp
          with_reducible rfl
          }
          rotate_left
          {
          simp only [qzs]
          rfl
          }
          refine pure_ (i := 32) (N := some 61) (v := ?_) (a' := ?_) (bqz 34 8589934591) rfl rfl qza qzd (Or.inl ⟨by rfl, ?_⟩) ?_ ?_
          rotate_left
          {
          intro w'
          go_simp
          with_reducible rfl
          }
          rotate_left
          {
          simp only [qzs]
          rfl
          }
          refine pure_ (i := 33) (N := some 62) (v := ?_) (a' := ?_) (bqz 34 17179869183) rfl rfl qza qzd (Or.inl ⟨by rfl, ?_⟩) ?_ ?_
          rotate_left
          {
          intro w'
          go_simp
          with_reducible rfl
          }
          rotate_left
          {
          simp only [qzs]
          rfl
          }
          refine done_ (done_of HT_.out (by kernel_rfl)) ?_
          try go_wp2
          go_roundg k2
          case measure => have := HJ1.out; have := HK2.out; omega
          case rel => exact ⟨(wrap64 (x24_2 + 1)), qz6, H', ⟨by have := HJ1.out; have := HK2.out; omega⟩, ⟨by (with_reducible repeat (first | refine blk_drewN ?_ _ | refine blk_drew ?_ | refine blk_alloc ?_ _)); exact BK115.out⟩, ⟨by repeat (first | (with_reducible first | exact HB.out | apply below_alloc | apply pw_below_drewN | apply below_drew1 | refine below_set ?_ GE115.out | refine below_set ?_ GE119.out) | exact HB.out)⟩⟩
          }
          }
          {
          rw [if_neg c25] at H
          exact absurd H (by simp)
          }
          }
          {
          rw [if_neg c24] at H
          exact absurd H (by simp)
          }
          }
          {
          rw [if_neg c22] at H
          have c22b0 : decide (0 < x24_2) = false := decide_eq_false c22
          clear c22
          have H' := Aside0.mk H
          clear H
          have p118 : 0 ≤ (x24_2 : Int) := of_decide_eq_true qz3
          have q118 : x24_2 < (l0_2.length : Int) := of_decide_eq_true qz3
          obtain ⟨ad118, e118, hx118_0, hx118_1, hx118_2⟩ := at_T72 HR0_2.out x24_2 p118 q118
          cases e118
          replace hx118_0 := (HB.out.cell (World.block_lt_of_cell? w _ hx118_0)).trans hx118_0
          replace hx118_1 := (HB.out.cell (World.block_lt_of_cell? w _ hx118_1)).trans hx118_1
          replace hx118_2 := (HB.out.cell (World.block_lt_of_cell? w _ hx118_2)).trans hx118_2
          replace p118 := eq_true p118
          replace q118 := eq_true q118
          try go_wp2_with (first | ((with_reducible refine gate_dst (N := 4) rfl ?_); (try (refine gate_guard (by rfl) ?_; dsimp only)); refine box_event ?hg (N := 4) ?hd (cs := #[.int .i64 0, .int .i64 0, .int .i64 0]) (t := 72) ?hr ?_; (case hd => rfl); (case hg => rfl); (case hr => first | (go_simp; done) | (go_simp; rfl)); intro gb119 hg w37 hbox hb; have n0_ := Aside0.mk (blk_below (g := gb115) (o := .cells #[.int .i64 a0_0, .int .i64 a0_1, .slice (some ad118) l0_2.length c0_2] 79 (0, 0)) qz12 hb); have n1_ := Aside0.mk (below_step qz8 hb); have n2_ := Aside0.mk (hbox); have n3_ := Aside0.mk ((by rw [hg]; exact (below_size qz8) : w.heap.size ≤ gb119)); have n4_ := Aside0.mk ((by rw [hg]; exact (below_size qz8) : w.heap.size ≤ gb119)); have n5_ := Aside0.mk ((by rw [hg]; exact Nat.ne_of_lt (blk_lt (g := gb115) (o := .cells #[.int .i64 a0_0, .int .i64 a0_1, .slice (some ad118) l0_2.length c0_2] 79 (0, 0)) qz12) : gb115 ≠ gb119)); have n6_ := Aside0.mk ((by rw [hg]; exact Nat.ne_of_gt (blk_lt (g := gb115) (o := .cells #[.int .i64 a0_0, .int .i64 a0_1, .slice (some ad118) l0_2.length c0_2] 79 (0, 0)) qz12) : gb119 ≠ gb115)); clear BK115; clear HB; have BK115 := n0_; have HB := n1_; have BK119 := n2_; have GW119 := n3_; have GE119 := n4_; have NB115_119 := n5_; have NB119_115 := n6_; clear n0_ n1_ n2_ n3_ n4_ n5_ n6_; clear hb hbox hg; have hnb38 := NB119_115.out; have hnc38 := NB115_119.out; have hcz39_0 : w37.cell? ⟨gb119, 0, none⟩ = some (.int .i64 0) := (blk_cell BK119.out 0).trans rfl; have hcz39_1 : w37.cell? ⟨gb119, 1, none⟩ = some (.int .i64 0) := (blk_cell BK119.out 1).trans rfl; have hcz39_2 : w37.cell? ⟨gb119, 2, none⟩ = some (.int .i64 0) := (blk_cell BK119.out 2).trans rfl; have hfz39_0 := blk_frozen BK119.out 0; have hfz39_1 := blk_frozen BK119.out 1; have hfz39_2 := blk_frozen BK119.out 2))
          generalize hq_ : (((w37.setCell ⟨gb119, 0, none⟩ (.int .i64 ((rd_T72 l0_2 x24_2).f0))).setCell ⟨gb119, 1, none⟩ (.int .i64 ((rd_T72 l0_2 x24_2).f1))).setCell ⟨gb119, 2, none⟩ (.int .i64 ((rd_T72 l0_2 x24_2).f2))) = w40
          have n0_ : Aside0 (w40.heap[gb115]? = some (.cells #[.int .i64 a0_0, .int .i64 a0_1, .slice (some ad118) l0_2.length c0_2] 79 (0, 0))) := ⟨by rw [← hq_]; exact qz7⟩
          have n1_ : Aside0 (w40.heap[gb119]? = some (.cells #[.int .i64 ((rd_T72 l0_2 x24_2).f0), .int .i64 ((rd_T72 l0_2 x24_2).f1), .int .i64 ((rd_T72 l0_2 x24_2).f2)] 72 (0, 0))) := ⟨by rw [← hq_]; exact (by (with_reducible repeat (first | refine blk_drewN ?_ _ | refine blk_drew ?_ | refine blk_alloc ?_ _)); refine blk_put (cs := #[.int .i64 ((rd_T72 l0_2 x24_2).f0), .int .i64 ((rd_T72 l0_2 x24_2).f1), .int .i64 0]) ?_ 2 _ rfl; (with_reducible repeat (first | refine blk_drewN ?_ _ | refine blk_drew ?_ | refine blk_alloc ?_ _)); refine blk_put (cs := #[.int .i64 ((rd_T72 l0_2 x24_2).f0), .int .i64 0, .int .i64 0]) ?_ 1 _ rfl; (with_reducible repeat (first | refine blk_drewN ?_ _ | refine blk_drew ?_ | refine blk_alloc ?_ _)); refine blk_put (cs := #[.int .i64 0, .int .i64 0, .int .i64 0]) ?_ 0 _ rfl; (with_reducible repeat (first | refine blk_drewN ?_ _ | refine blk_drew ?_ | refine blk_alloc ?_ _)); exact BK119.out)⟩
          have n2_ : Aside0 (Below w.heap.size w w40) := ⟨by rw [← hq_]; exact (by repeat (first | (with_reducible first | exact HB.out | apply below_alloc | apply pw_below_drewN | apply below_drew1 | refine below_set ?_ GE115.out | refine below_set ?_ GE119.out) | exact HB.out))⟩
          (try clear BK115)
          (try clear BK119)
          (try clear HB)
          clear hq_
          have BK115 := n0_
          have BK119 := n1_
          have HB := n2_
          clear n0_ n1_ n2_
          have n0_ := Aside0.mk (blk_drew BK115.out)
          have n1_ := Aside0.mk (blk_drew BK119.out)
          have n2_ := Aside0.mk (below_drew1 HB.out)
          clear BK115
          clear BK119
          clear HB
          have BK115 := n0_
          have BK119 := n1_
          have HB := n2_
          clear n0_ n1_ n2_
          refine start_ (n := 34) (S := fun w' => w'.cell? ⟨gb119, 0, none⟩ = some (.int .i64 ((rd_T72 l0_2 x24_2).f0)) ∧ w'.cell? ⟨gb119, 1, none⟩ = some (.int .i64 ((rd_T72 l0_2 x24_2).f1)) ∧ w'.cell? ⟨gb119, 2, none⟩ = some (.int .i64 ((rd_T72 l0_2 x24_2).f2))) (ds := []) #[false, false, false, false, false, false, false, false, false, false, false, false, false, false, false, false, false, false, false, false, false, false, false, false, false, false, false, false, false, false, false, false, false, false] (by kernel_rfl) rfl rfl ⟨(blk_cell BK119.out 0).trans rfl, (blk_cell BK119.out 1).trans rfl, (blk_cell BK119.out 2).trans rfl⟩ (fun hHeld => ?_); refine with_tabW impl_podOk.tab6 impl_podOk.bits6 (fun HT_ HW_ => ?_)
          generalize w40.drew = w41 at BK115 BK119 HB hHeld ⊢
          refine pure_ (i := 0) (N := some 29) (v := ?_) (a' := ?_) (bqz 34 1) rfl rfl qza qzd (Or.inl ⟨by rfl, ?_⟩) ?_ ?_
          rotate_left
          {
          intro w'
          go_simp
          with_reducible rfl
          }
          rotate_left
          {
          simp only [qzs]
          rfl
          }
          refine take_ (i := 1) (N := some 30) (v := ?_) (a' := ?_) (bqz 34 3) rfl rfl qzb qzd (Or.inl ⟨by rfl, ?_⟩) hHeld ?_ ?_
          rotate_left
          {
          rintro w' ⟨s0, s1, s2⟩
          go_simp
          with_reducible rfl
          }
          rotate_left
          {
          simp only [qzs]
          rfl
          }
          refine one_ (i := 2) (N := some 31) (bqz 34 7) rfl rfl qzc (by decide) (fun K hK => ?_)
          refine goes_ Try.func64 (by kernel_rfl) rfl #[.int .i64 ((rd_T72 l0_2 x24_2).f0), .int .i64 1, .int .i64 50] (by rfl) rfl rfl qz2 ?_
          with_reducible refine (impl_in.calls ((rd_T72 l0_2 x24_2).f0) 1 50 true _ A16.out).mono ?_
          rintro e w' ⟨rfl, ⟨nd, rfl⟩⟩
          refine ⟨_, rfl, ?_⟩
          refine hK.out _ _ ⟨(blk_cell BK119.out 0).trans rfl, (blk_cell BK119.out 1).trans rfl, (blk_cell BK119.out 2).trans rfl⟩ (fun hHeld => ?_)
          clear hK K
          refine norm_ (a' := ?_) ?_ ?_
          rotate_left
          {
          show Act.put _ (some 31) _ = _
          simp only [qzs]
          rfl
          }
          refine pure_ (i := 3) (N := some 32) (v := ?_) (a' := ?_) (bqz 34 15) rfl rfl qza qzd (Or.inl ⟨by rfl, ?_⟩) ?_ ?_
          rotate_left
          {
          intro w'
          go_simp
          with_reducible rfl
          }
          rotate_left
          {
          simp only [qzs]
          rfl
          }
          refine pure_ (i := 4) (N := some 33) (v := ?_) (a' := ?_) (bqz 34 31) rfl rfl qza qzd (Or.inl ⟨by rfl, ?_⟩) ?_ ?_
          rotate_left
          {
          intro w'
          go_simp
          with_reducible rfl
          }
          rotate_left
          {
          simp only [qzs]
          rfl
          }
          refine pure_ (i := 5) (N := some 34) (v := ?_) (a' := ?_) (bqz 34 63) rfl rfl qza qzd (Or.inl ⟨by rfl, ?_⟩) ?_ ?_
          rotate_left
          {
          intro w'
          go_simp
          with_reducible rfl
          }
          rotate_left
          {
          simp only [qzs]
          rfl
          }
          refine take_ (i := 6) (N := some 35) (v := ?_) (a' := ?_) (bqz 34 127) rfl rfl qzb qzd (Or.inl ⟨by rfl, ?_⟩) hHeld ?_ ?_
          rotate_left
          {
          rintro w' ⟨s0, s1, s2⟩
          go_simp
          with_reducible rfl
          }
          rotate_left
          {
          simp only [qzs]
          rfl
          }
          refine one_ (i := 7) (N := some 36) (bqz 34 255) rfl rfl qzc (by decide) (fun K hK => ?_)
          refine goes_ Try.func64 (by kernel_rfl) rfl #[.int .i64 ((rd_T72 l0_2 x24_2).f1), .int .i64 1, .int .i64 1000] (by rfl) rfl rfl qz2 ?_
          with_reducible refine (impl_in.calls ((rd_T72 l0_2 x24_2).f1) 1 1000 true _ A18.out).mono ?_
          rintro e w' ⟨rfl, ⟨nd, rfl⟩⟩
          refine ⟨_, rfl, ?_⟩
          refine hK.out _ _ ⟨(blk_cell BK119.out 0).trans rfl, (blk_cell BK119.out 1).trans rfl, (blk_cell BK119.out 2).trans rfl⟩ (fun hHeld => ?_)
          clear hK K
          refine norm_ (a' := ?_) ?_ ?_
          rotate_left
          {
          show Act.put _ (some 36) _ = _
          simp only [qzs]
          rfl
          }
          refine pure_ (i := 8) (N := some 37) (v := ?_) (a' := ?_) (bqz 34 511) rfl rfl qza qzd (Or.inl ⟨by rfl, ?_⟩) ?_ ?_
          rotate_left
          {
          intro w'
          go_simp
          with_reducible rfl
          }
          rotate_left
          {
          simp only [qzs]
          rfl
          }
          refine pure_ (i := 9) (N := some 38) (v := ?_) (a' := ?_) (bqz 34 1023) rfl rfl qza qzd (Or.inl ⟨by rfl, ?_⟩) ?_ ?_
          rotate_left
          {
          intro w'
          go_simp
          with_reducible rfl
          }
          rotate_left
          {
          simp only [qzs]
          rfl
          }
          refine pure_ (i := 10) (N := some 39) (v := ?_) (a' := ?_) (bqz 34 2047) rfl rfl qza qzd (Or.inl ⟨by rfl, ?_⟩) ?_ ?_
          rotate_left
          {
          intro w'
          go_simp
          with_reducible rfl
          }
          rotate_left
          {
          simp only [qzs]
          rfl
          }
          refine pure_ (i := 11) (N := some 40) (v := ?_) (a' := ?_) (bqz 34 4095) rfl rfl qza qzd (Or.inl ⟨by rfl, ?_⟩) ?_ ?_
          rotate_left
          {
          intro w'
          go_simp
          with_reducible rfl
          }
          rotate_left
          {
          simp only [qzs]
          rfl
          }
          refine pure_ (i := 13) (N := some 42) (v := ?_) (a' := ?_) (bqz 34 12287) rfl rfl qza qzd (Or.inl ⟨by rfl, ?_⟩) ?_ ?_
          rotate_left
          {
          intro w'
          go_simp
          with_reducible rfl
          }
          rotate_left
          {
          simp only [qzs]
          rfl
          }
          refine take_ (i := 12) (N := some 41) (v := ?_) (a' := ?_) (bqz 34 16383) rfl rfl qzb qzd (Or.inl ⟨by rfl, ?_⟩) hHeld ?_ ?_
          rotate_left
          {
          rintro w' ⟨s0, s1, s2⟩
          go_simp
          with_reducible rfl
          }
          rotate_left
          {
          simp only [qzs]
          rfl
          }
          refine take_ (i := 14) (N := some 43) (v := ?_) (a' := ?_) (bqz 34 32767) rfl rfl qzb qzd (Or.inl ⟨by rfl, ?_⟩) hHeld ?_ ?_
          rotate_left
          {
          rintro w' ⟨s0, s1, s2⟩
          go_simp
          with_reducible rfl
          }
          rotate_left
          {
          simp only [qzs]
          rfl
          }
          refine one_ (i := 15) (N := some 44) (bqz 34 65535) rfl rfl qzc (by decide) (fun K hK => ?_)
          refine goes_ Try.func64 (by kernel_rfl) rfl #[.int .i64 ((rd_T72 l0_2 x24_2).f2), .int .i64 0, .int .i64 ((rd_T72 l0_2 x24_2).f1)] (by rfl) rfl rfl qz2 ?_
          with_reducible refine (impl_in.calls ((rd_T72 l0_2 x24_2).f2) 0 ((rd_T72 l0_2 x24_2).f1) true _ A20.out).mono ?_
          rintro e w' ⟨rfl, ⟨nd, rfl⟩⟩
          refine ⟨_, rfl, ?_⟩
          refine hK.out _ _ ⟨(blk_cell BK119.out 0).trans rfl, (blk_cell BK119.out 1).trans rfl, (blk_cell BK119.out 2).trans rfl⟩ (fun hHeld => ?_)
          clear hK K
          refine norm_ (a' := ?_) ?_ ?_
          rotate_left
          {
          show Act.put _ (some 44) _ = _
          simp only [qzs]
          rfl
          }
          refine pure_ (i := 16) (N := some 45) (v := ?_) (a' := ?_) (bqz 34 131071) rfl rfl qza qzd (Or.inl ⟨by rfl, ?_⟩) ?_ ?_
          rotate_left
          {
          intro w'
          go_simp
          with_reducible rfl
          }
          rotate_left
          {
          simp only [qzs]
          rfl
          }
          refine pure_ (i := 17) (N := some 46) (v := ?_) (a' := ?_) (bqz 34 262143) rfl rfl qza qzd (Or.inl ⟨by rfl, ?_⟩) ?_ ?_
          rotate_left
          {
          intro w'
          go_simp
          with_reducible rfl
          }
          rotate_left
          {
          simp only [qzs]
          rfl
          }
          refine pure_ (i := 18) (N := some 47) (v := ?_) (a' := ?_) (bqz 34 524287) rfl rfl qza qzd (Or.inl ⟨by rfl, ?_⟩) ?_ ?_
          rotate_left
          {
          intro w'
          go_simp
          with_reducible rfl
          }
          rotate_left
          {
          simp only [qzs]
          rfl
          }
          refine pure_ (i := 19) (N := some 48) (v := ?_) (a' := ?_) (bqz 34 1048575) rfl rfl qza qzd (Or.inl ⟨by rfl, ?_⟩) ?_ ?_
          rotate_left
          {
          intro w'
          go_simp
          with_reducible rfl
          }
          rotate_left
          {
          simp only [qzs]
          rfl
          }
          refine pure_ (i := 20) (N := some 49) (v := ?_) (a' := ?_) (bqz 34 2097151) rfl rfl qza qzd (Or.inl ⟨by rfl, ?_⟩) ?_ ?_
          rotate_left
          {
          intro w'
          go_simp
          with_reducible rfl
          }
          rotate_left
          {
          simp only [qzs]
          rfl
          }
          refine pure_ (i := 21) (N := some 50) (v := ?_) (a' := ?_) (bqz 34 4194303) rfl rfl qza qzd (Or.inl ⟨by rfl, ?_⟩) ?_ ?_
          rotate_left
          {
          intro w'
          go_simp
          with_reducible rfl
          }
          rotate_left
          {
          simp only [qzs]
          rfl
          }
          refine pure_ (i := 22) (N := some 51) (v := undef) (a' := ?_) (bqz 34 8388607) rfl rfl qza qzd (Or.inr ⟨by rfl, rfl⟩) ?_ ?_
          rotate_left
          {
          simp only [qzs]
          rfl
          }
          refine pure_ (i := 23) (N := some 52) (v := undef) (a' := ?_) (bqz 34 16777215) rfl rfl qza qzd (Or.inr ⟨by rfl, rfl⟩) ?_ ?_
          rotate_left
          {
          simp only [qzs]
          rfl
          }
          refine pure_ (i := 24) (N := some 53) (v := undef) (a' := ?_) (bqz 34 33554431) rfl rfl qza qzd (Or.inr ⟨by rfl, rfl⟩) ?_ ?_
          rotate_left
          {
          simp only [qzs]
          rfl
          }
          refine pure_ (i := 25) (N := some 54) (v := undef) (a' := ?_) (bqz 34 67108863) rfl rfl qza qzd (Or.inr ⟨by rfl, rfl⟩) ?_ ?_
          rotate_left
          {
          simp only [qzs]
          rfl
          }
          refine pure_ (i := 26) (N := some 55) (v := undef) (a' := ?_) (bqz 34 134217727) rfl rfl qza qzd (Or.inr ⟨by rfl, rfl⟩) ?_ ?_
          rotate_left
          {
          simp only [qzs]
          rfl
          }
          refine pure_ (i := 27) (N := some 56) (v := undef) (a' := ?_) (bqz 34 268435455) rfl rfl qza qzd (Or.inr ⟨by rfl, rfl⟩) ?_ ?_
          rotate_left
          {
          simp only [qzs]
          rfl
          }
          refine pure_ (i := 28) (N := some 57) (v := undef) (a' := ?_) (bqz 34 536870911) rfl rfl qza qzd (Or.inr ⟨by rfl, rfl⟩) ?_ ?_
          rotate_left
          {
          simp only [qzs]
          rfl
          }
          refine pure_ (i := 29) (N := some 58) (v := undef) (a' := ?_) (bqz 34 1073741823) rfl rfl qza qzd (Or.inr ⟨by rfl, rfl⟩) ?_ ?_
          rotate_left
          {
          simp only [qzs]
          rfl
          }
          refine pure_ (i := 30) (N := some 59) (v := undef) (a' := ?_) (bqz 34 2147483647) rfl rfl qza qzd (Or.inr ⟨by rfl, rfl⟩) ?_ ?_
          rotate_left
          {
          simp only [qzs]
          rfl
          }
          refine pure_ (i := 31) (N := some 60) (v := undef) (a' := ?_) (bqz 34 4294967295) rfl rfl qza qzd (Or.inr ⟨by rfl, rfl⟩) ?_ ?_
          rotate_left
          {
          simp only [qzs]
          rfl
          }
          refine pure_ (i := 32) (N := some 61) (v := ?_) (a' := ?_) (bqz 34 8589934591) rfl rfl qza qzd (Or.inl ⟨by rfl, ?_⟩) ?_ ?_
          rotate_left
          {
          intro w'
          go_simp
          with_reducible rfl
          }
          rotate_left
          {
          simp only [qzs]
          rfl
          }
          refine pure_ (i := 33) (N := some 62) (v := ?_) (a' := ?_) (bqz 34 17179869183) rfl rfl qza qzd (Or.inl ⟨by rfl, ?_⟩) ?_ ?_
          rotate_left
          {
          intro w'
          go_simp
          with_reducible rfl
          }
          rotate_left
          {
          simp only [qzs]
          rfl
          }
          refine done_ (done_of HT_.out (by kernel_rfl)) ?_
          try go_wp2
          go_roundg k2
          case measure => have := HJ1.out; have := HK2.out; omega
          case rel => exact ⟨(wrap64 (x24_2 + 1)), qz6, H', ⟨by have := HJ1.out; have := HK2.out; omega⟩, ⟨by (with_reducible repeat (first | refine blk_drewN ?_ _ | refine blk_drew ?_ | refine blk_alloc ?_ _)); exact BK115.out⟩, ⟨by repeat (first | (with_reducible first | exact HB.out | apply below_alloc | apply pw_below_drewN | apply below_drew1 | refine below_set ?_ GE115.out | refine below_set ?_ GE119.out) | exact HB.out)⟩⟩
          }
          }
          {
          replace c21 := Bool.eq_false_iff.mpr c21
          subst c21
          have H1 : (some false) = some r := by rw [if_neg (show ¬ (false = true) by decide)] at H; exact H
          clear H
          have H := H1
          clear H1
          obtain rfl := Option.some.inj H
          simp only [Option.some.injEq, Prod.mk.injEq] at H
          obtain ⟨rfl⟩ := H
          have p118 : 0 ≤ (x24_2 : Int) := of_decide_eq_true qz3
          have q118 : x24_2 < (l0_2.length : Int) := of_decide_eq_true qz3
          obtain ⟨ad118, e118, hx118_0, hx118_1, hx118_2⟩ := at_T72 HR0_2.out x24_2 p118 q118
          cases e118
          replace hx118_0 := (HB.out.cell (World.block_lt_of_cell? w _ hx118_0)).trans hx118_0
          replace hx118_1 := (HB.out.cell (World.block_lt_of_cell? w _ hx118_1)).trans hx118_1
          replace hx118_2 := (HB.out.cell (World.block_lt_of_cell? w _ hx118_2)).trans hx118_2
          replace p118 := eq_true p118
          replace q118 := eq_true q118
          try go_wp2_with (first | ((with_reducible refine gate_dst (N := 4) rfl ?_); (try (refine gate_guard (by rfl) ?_; dsimp only)); refine box_event ?hg (N := 4) ?hd (cs := #[.int .i64 0, .int .i64 0, .int .i64 0]) (t := 72) ?hr ?_; (case hd => rfl); (case hg => rfl); (case hr => first | (go_simp; done) | (go_simp; rfl)); intro gb119 hg w42 hbox hb; have n0_ := Aside0.mk (blk_below (g := gb115) (o := .cells #[.int .i64 a0_0, .int .i64 a0_1, .slice (some ad118) l0_2.length c0_2] 79 (0, 0)) qz12 hb); have n1_ := Aside0.mk (below_step qz8 hb); have n2_ := Aside0.mk (hbox); have n3_ := Aside0.mk ((by rw [hg]; exact (below_size qz8) : w.heap.size ≤ gb119)); have n4_ := Aside0.mk ((by rw [hg]; exact (below_size qz8) : w.heap.size ≤ gb119)); have n5_ := Aside0.mk ((by rw [hg]; exact Nat.ne_of_lt (blk_lt (g := gb115) (o := .cells #[.int .i64 a0_0, .int .i64 a0_1, .slice (some ad118) l0_2.length c0_2] 79 (0, 0)) qz12) : gb115 ≠ gb119)); have n6_ := Aside0.mk ((by rw [hg]; exact Nat.ne_of_gt (blk_lt (g := gb115) (o := .cells #[.int .i64 a0_0, .int .i64 a0_1, .slice (some ad118) l0_2.length c0_2] 79 (0, 0)) qz12) : gb119 ≠ gb115)); clear BK115; clear HB; have BK115 := n0_; have HB := n1_; have BK119 := n2_; have GW119 := n3_; have GE119 := n4_; have NB115_119 := n5_; have NB119_115 := n6_; clear n0_ n1_ n2_ n3_ n4_ n5_ n6_; clear hb hbox hg; have hnb43 := NB119_115.out; have hnc43 := NB115_119.out; have hcz44_0 : w42.cell? ⟨gb119, 0, none⟩ = some (.int .i64 0) := (blk_cell BK119.out 0).trans rfl; have hcz44_1 : w42.cell? ⟨gb119, 1, none⟩ = some (.int .i64 0) := (blk_cell BK119.out 1).trans rfl; have hcz44_2 : w42.cell? ⟨gb119, 2, none⟩ = some (.int .i64 0) := (blk_cell BK119.out 2).trans rfl; have hfz44_0 := blk_frozen BK119.out 0; have hfz44_1 := blk_frozen BK119.out 1; have hfz44_2 := blk_frozen BK119.out 2))
          generalize hq_ : (((w42.setCell ⟨gb119, 0, none⟩ (.int .i64 ((rd_T72 l0_2 x24_2).f0))).setCell ⟨gb119, 1, none⟩ (.int .i64 ((rd_T72 l0_2 x24_2).f1))).setCell ⟨gb119, 2, none⟩ (.int .i64 ((rd_T72 l0_2 x24_2).f2))) = w45
          have n0_ : Aside0 (w45.heap[gb115]? = some (.cells #[.int .i64 a0_0, .int .i64 a0_1, .slice (some ad118) l0_2.length c0_2] 79 (0, 0))) := ⟨by rw [← hq_]; exact qz7⟩
          have n1_ : Aside0 (w45.heap[gb119]? = some (.cells #[.int .i64 ((rd_T72 l0_2 x24_2).f0), .int .i64 ((rd_T72 l0_2 x24_2).f1), .int .i64 ((rd_T72 l0_2 x24_2).f2)] 72 (0, 0))) := ⟨by rw [← hq_]; exact (by (with_reducible repeat (first | refine blk_drewN ?_ _ | refine blk_drew ?_ | refine blk_alloc ?_ _)); refine blk_put (cs := #[.int .i64 ((rd_T72 l0_2 x24_2).f0), .int .i64 ((rd_T72 l0_2 x24_2).f1), .int .i64 0]) ?_ 2 _ rfl; (with_reducible repeat (first | refine blk_drewN ?_ _ | refine blk_drew ?_ | refine blk_alloc ?_ _)); refine blk_put (cs := #[.int .i64 ((rd_T72 l0_2 x24_2).f0), .int .i64 0, .int .i64 0]) ?_ 1 _ rfl; (with_reducible repeat (first | refine blk_drewN ?_ _ | refine blk_drew ?_ | refine blk_alloc ?_ _)); refine blk_put (cs := #[.int .i64 0, .int .i64 0, .int .i64 0]) ?_ 0 _ rfl; (with_reducible repeat (first | refine blk_drewN ?_ _ | refine blk_drew ?_ | refine blk_alloc ?_ _)); exact BK119.out)⟩
          have n2_ : Aside0 (Below w.heap.size w w45) := ⟨by rw [← hq_]; exact (by repeat (first | (with_reducible first | exact HB.out | apply below_alloc | apply pw_below_drewN | apply below_drew1 | refine below_set ?_ GE115.out | refine below_set ?_ GE119.out) | exact HB.out))⟩
          (try clear BK115)
          (try clear BK119)
          (try clear HB)
          clear hq_
          have BK115 := n0_
          have BK119 := n1_
          have HB := n2_
          clear n0_ n1_ n2_
          have n0_ := Aside0.mk (blk_drew BK115.out)
          have n1_ := Aside0.mk (blk_drew BK119.out)
          have n2_ := Aside0.mk (below_drew1 HB.out)
          clear BK115
          clear BK119
          clear HB
          have BK115 := n0_
          have BK119 := n1_
          have HB := n2_
          clear n0_ n1_ n2_
          refine start_ (n := 34) (S := fun w' => w'.cell? ⟨gb119, 0, none⟩ = some (.int .i64 ((rd_T72 l0_2 x24_2).f0)) ∧ w'.cell? ⟨gb119, 1, none⟩ = some (.int .i64 ((rd_T72 l0_2 x24_2).f1)) ∧ w'.cell? ⟨gb119, 2, none⟩ = some (.int .i64 ((rd_T72 l0_2 x24_2).f2))) (ds := []) #[false, false, false, false, false, false, false, false, false, false, false, false, false, false, false, false, false, false, false, false, false, false, false, false, false, false, false, false, false, false, false, false, false, false] (by kernel_rfl) rfl rfl ⟨(blk_cell BK119.out 0).trans rfl, (blk_cell BK119.out 1).trans rfl, (blk_cell BK119.out 2).trans rfl⟩ (fun hHeld => ?_); refine with_tabW impl_podOk.tab6 impl_podOk.bits6 (fun HT_ HW_ => ?_)
          generalize w45.drew = w46 at BK115 BK119 HB hHeld ⊢
          refine pure_ (i := 0) (N := some 29) (v := ?_) (a' := ?_) (bqz 34 1) rfl rfl qza qzd (Or.inl ⟨by rfl, ?_⟩) ?_ ?_
          rotate_left
          {
          intro w'
          go_simp
          with_reducible rfl
          }
          rotate_left
          {
          simp only [qzs]
          rfl
          }
          refine take_ (i := 1) (N := some 30) (v := ?_) (a' := ?_) (bqz 34 3) rfl rfl qzb qzd (Or.inl ⟨by rfl, ?_⟩) hHeld ?_ ?_
          rotate_left
          {
          rintro w' ⟨s0, s1, s2⟩
          go_simp
          with_reducible rfl
          }
          rotate_left
          {
          simp only [qzs]
          rfl
          }
          refine one_ (i := 2) (N := some 31) (bqz 34 7) rfl rfl qzc (by decide) (fun K hK => ?_)
          refine goes_ Try.func64 (by kernel_rfl) rfl #[.int .i64 ((rd_T72 l0_2 x24_2).f0), .int .i64 1, .int .i64 50] (by rfl) rfl rfl qz2 ?_
          with_reducible refine (impl_in.calls ((rd_T72 l0_2 x24_2).f0) 1 50 true _ A16.out).mono ?_
          rintro e w' ⟨rfl, ⟨nd, rfl⟩⟩
          refine ⟨_, rfl, ?_⟩
          refine hK.out _ _ ⟨(blk_cell BK119.out 0).trans rfl, (blk_cell BK119.out 1).trans rfl, (blk_cell BK119.out 2).trans rfl⟩ (fun hHeld => ?_)
          clear hK K
          refine norm_ (a' := ?_) ?_ ?_
          rotate_left
          {
          show Act.put _ (some 31) _ = _
          simp only [qzs]
          rfl
          }
          refine pure_ (i := 3) (N := some 32) (v := ?_) (a' := ?_) (bqz 34 15) rfl rfl qza qzd (Or.inl ⟨by rfl, ?_⟩) ?_ ?_
          rotate_left
          {
          intro w'
          go_simp
          with_reducible rfl
          }
          rotate_left
          {
          simp only [qzs]
          rfl
          }
          refine pure_ (i := 4) (N := some 33) (v := ?_) (a' := ?_) (bqz 34 31) rfl rfl qza qzd (Or.inl ⟨by rfl, ?_⟩) ?_ ?_
          rotate_left
          {
          intro w'
          go_simp
          with_reducible rfl
          }
          rotate_left
          {
          simp only [qzs]
          rfl
          }
          refine pure_ (i := 5) (N := some 34) (v := ?_) (a' := ?_) (bqz 34 63) rfl rfl qza qzd (Or.inl ⟨by rfl, ?_⟩) ?_ ?_
          rotate_left
          {
          intro w'
          go_simp
          with_reducible rfl
          }
          rotate_left
          {
          simp only [qzs]
          rfl
          }
          refine take_ (i := 6) (N := some 35) (v := ?_) (a' := ?_) (bqz 34 127) rfl rfl qzb qzd (Or.inl ⟨by rfl, ?_⟩) hHeld ?_ ?_
          rotate_left
          {
          rintro w' ⟨s0, s1, s2⟩
          go_simp
          with_reducible rfl
          }
          rotate_left
          {
          simp only [qzs]
          rfl
          }
          refine one_ (i := 7) (N := some 36) (bqz 34 255) rfl rfl qzc (by decide) (fun K hK => ?_)
          refine goes_ Try.func64 (by kernel_rfl) rfl #[.int .i64 ((rd_T72 l0_2 x24_2).f1), .int .i64 1, .int .i64 1000] (by rfl) rfl rfl qz2 ?_
          with_reducible refine (impl_in.calls ((rd_T72 l0_2 x24_2).f1) 1 1000 true _ A18.out).mono ?_
          rintro e w' ⟨rfl, ⟨nd, rfl⟩⟩
          refine ⟨_, rfl, ?_⟩
          refine hK.out _ _ ⟨(blk_cell BK119.out 0).trans rfl, (blk_cell BK119.out 1).trans rfl, (blk_cell BK119.out 2).trans rfl⟩ (fun hHeld => ?_)
          clear hK K
          refine norm_ (a' := ?_) ?_ ?_
          rotate_left
          {
          show Act.put _ (some 36) _ = _
          simp only [qzs]
          rfl
          }
          refine pure_ (i := 8) (N := some 37) (v := ?_) (a' := ?_) (bqz 34 511) rfl rfl qza qzd (Or.inl ⟨by rfl, ?_⟩) ?_ ?_
          rotate_left
          {
          intro w'
          go_simp
          with_reducible rfl
          }
          rotate_left
          {
          simp only [qzs]
          rfl
          }
          refine pure_ (i := 9) (N := some 38) (v := ?_) (a' := ?_) (bqz 34 1023) rfl rfl qza qzd (Or.inl ⟨by rfl, ?_⟩) ?_ ?_
          rotate_left
          {
          intro w'
          go_simp
          with_reducible rfl
          }
          rotate_left
          {
          simp only [qzs]
          rfl
          }
          refine pure_ (i := 10) (N := some 39) (v := ?_) (a' := ?_) (bqz 34 2047) rfl rfl qza qzd (Or.inl ⟨by rfl, ?_⟩) ?_ ?_
          rotate_left
          {
          intro w'
          go_simp
          with_reducible rfl
          }
          rotate_left
          {
          simp only [qzs]
          rfl
          }
          refine pure_ (i := 11) (N := some 40) (v := ?_) (a' := ?_) (bqz 34 4095) rfl rfl qza qzd (Or.inl ⟨by rfl, ?_⟩) ?_ ?_
          rotate_left
          {
          intro w'
          go_simp
          with_reducible rfl
          }
          rotate_left
          {
          simp only [qzs]
          rfl
          }
          refine pure_ (i := 13) (N := some 42) (v := ?_) (a' := ?_) (bqz 34 12287) rfl rfl qza qzd (Or.inl ⟨by rfl, ?_⟩) ?_ ?_
          rotate_left
          {
          intro w'
          go_simp
          with_reducible rfl
          }
          rotate_left
          {
          simp only [qzs]
          rfl
          }
          refine take_ (i := 12) (N := some 41) (v := ?_) (a' := ?_) (bqz 34 16383) rfl rfl qzb qzd (Or.inl ⟨by rfl, ?_⟩) hHeld ?_ ?_
          rotate_left
          {
          rintro w' ⟨s0, s1, s2⟩
          go_simp
          with_reducible rfl
          }
          rotate_left
          {
          simp only [qzs]
          rfl
          }
          refine take_ (i := 14) (N := some 43) (v := ?_) (a' := ?_) (bqz 34 32767) rfl rfl qzb qzd (Or.inl ⟨by rfl, ?_⟩) hHeld ?_ ?_
          rotate_left
          {
          rintro w' ⟨s0, s1, s2⟩
          go_simp
          with_reducible rfl
          }
          rotate_left
          {
          simp only [qzs]
          rfl
          }
          refine one_ (i := 15) (N := some 44) (bqz 34 65535) rfl rfl qzc (by decide) (fun K hK => ?_)
          refine goes_ Try.func64 (by kernel_rfl) rfl #[.int .i64 ((rd_T72 l0_2 x24_2).f2), .int .i64 0, .int .i64 ((rd_T72 l0_2 x24_2).f1)] (by rfl) rfl rfl qz2 ?_
          with_reducible refine (impl_in.calls ((rd_T72 l0_2 x24_2).f2) 0 ((rd_T72 l0_2 x24_2).f1) false _ A20.out).mono ?_
          rintro e w' ⟨rfl, ⟨nd, rfl⟩⟩
          refine ⟨_, rfl, ?_⟩
          refine hK.out _ _ ⟨(blk_cell BK119.out 0).trans rfl, (blk_cell BK119.out 1).trans rfl, (blk_cell BK119.out 2).trans rfl⟩ (fun hHeld => ?_)
          clear hK K
          refine norm_ (a' := ?_) ?_ ?_
          rotate_left
          {
          show Act.put _ (some 44) _ = _
          simp only [qzs]
          rfl
          }
          refine pure_ (i := 16) (N := some 45) (v := ?_) (a' := ?_) (bqz 34 131071) rfl rfl qza qzd (Or.inl ⟨by rfl, ?_⟩) ?_ ?_
          rotate_left
          {
          intro w'
          go_simp
          with_reducible rfl
          }
          rotate_left
          {
          simp only [qzs]
          rfl
          }
          refine pure_ (i := 17) (N := some 46) (v := ?_) (a' := ?_) (bqz 34 262143) rfl rfl qza qzd (Or.inl ⟨by rfl, ?_⟩) ?_ ?_
          rotate_left
          {
          intro w'
          go_simp
          with_reducible rfl
          }
          rotate_left
          {
          simp only [qzs]
          rfl
          }
          refine pure_ (i := 18) (N := some 47) (v := ?_) (a' := ?_) (bqz 34 524287) rfl rfl qza qzd (Or.inl ⟨by rfl, ?_⟩) ?_ ?_
          rotate_left
          {
          intro w'
          go_simp
          with_reducible rfl
          }
          rotate_left
          {
          simp only [qzs]
          rfl
          }
          refine pure_ (i := 19) (N := some 48) (v := undef) (a' := ?_) (bqz 34 1048575) rfl rfl qza qzd (Or.inr ⟨by rfl, rfl⟩) ?_ ?_
          rotate_left
          {
          simp only [qzs]
          rfl
          }
          refine pure_ (i := 20) (N := some 49) (v := undef) (a' := ?_) (bqz 34 2097151) rfl rfl qza qzd (Or.inr ⟨by rfl, rfl⟩) ?_ ?_
          rotate_left
          {
          simp only [qzs]
          rfl
          }
          refine pure_ (i := 21) (N := some 50) (v := undef) (a' := ?_) (bqz 34 4194303) rfl rfl qza qzd (Or.inr ⟨by rfl, rfl⟩) ?_ ?_
          rotate_left
          {
          simp only [qzs]
          rfl
          }
          refine pure_ (i := 22) (N := some 51) (v := undef) (a' := ?_) (bqz 34 8388607) rfl rfl qza qzd (Or.inr ⟨by rfl, rfl⟩) ?_ ?_
          rotate_left
          {
          simp only [qzs]
          rfl
          }
          refine pure_ (i := 23) (N := some 52) (v := undef) (a' := ?_) (bqz 34 16777215) rfl rfl qza qzd (Or.inr ⟨by rfl, rfl⟩) ?_ ?_
          rotate_left
          {
          simp only [qzs]
          rfl
          }
          refine pure_ (i := 24) (N := some 53) (v := undef) (a' := ?_) (bqz 34 33554431) rfl rfl qza qzd (Or.inr ⟨by rfl, rfl⟩) ?_ ?_
          rotate_left
          {
          simp only [qzs]
          rfl
          }
          refine pure_ (i := 25) (N := some 54) (v := undef) (a' := ?_) (bqz 34 67108863) rfl rfl qza qzd (Or.inr ⟨by rfl, rfl⟩) ?_ ?_
          rotate_left
          {
          simp only [qzs]
          rfl
          }
          refine pure_ (i := 26) (N := some 55) (v := undef) (a' := ?_) (bqz 34 134217727) rfl rfl qza qzd (Or.inr ⟨by rfl, rfl⟩) ?_ ?_
          rotate_left
          {
          simp only [qzs]
          rfl
          }
          refine pure_ (i := 27) (N := some 56) (v := undef) (a' := ?_) (bqz 34 268435455) rfl rfl qza qzd (Or.inr ⟨by rfl, rfl⟩) ?_ ?_
          rotate_left
          {
          simp only [qzs]
          rfl
          }
          refine pure_ (i := 28) (N := some 57) (v := undef) (a' := ?_) (bqz 34 536870911) rfl rfl qza qzd (Or.inr ⟨by rfl, rfl⟩) ?_ ?_
          rotate_left
          {
          simp only [qzs]
          rfl
          }
          refine pure_ (i := 29) (N := some 58) (v := undef) (a' := ?_) (bqz 34 1073741823) rfl rfl qza qzd (Or.inr ⟨by rfl, rfl⟩) ?_ ?_
          rotate_left
          {
          simp only [qzs]
          rfl
          }
          refine pure_ (i := 30) (N := some 59) (v := undef) (a' := ?_) (bqz 34 2147483647) rfl rfl qza qzd (Or.inr ⟨by rfl, rfl⟩) ?_ ?_
          rotate_left
          {
          simp only [qzs]
          rfl
          }
          refine pure_ (i := 31) (N := some 60) (v := undef) (a' := ?_) (bqz 34 4294967295) rfl rfl qza qzd (Or.inr ⟨by rfl, rfl⟩) ?_ ?_
          rotate_left
          {
          simp only [qzs]
          rfl
          }
          refine pure_ (i := 32) (N := some 61) (v := undef) (a' := ?_) (bqz 34 8589934591) rfl rfl qza qzd (Or.inr ⟨by rfl, rfl⟩) ?_ ?_
          rotate_left
          {
          simp only [qzs]
          rfl
          }
          refine pure_ (i := 33) (N := some 62) (v := ?_) (a' := ?_) (bqz 34 17179869183) rfl rfl qza qzd (Or.inl ⟨by rfl, ?_⟩) ?_ ?_
          rotate_left
          {
          intro w'
          go_simp
          with_reducible rfl
          }
          rotate_left
          {
          simp only [qzs]
          rfl
          }
          refine done_ (done_of HT_.out (by kernel_rfl)) ?_
          try go_wp2
          go_ret
          exact ⟨by first | rfl | (simp [errW_none, errW_some] <;> rfl) | (simp [*, errW_none, errW_some] <;> rfl), by repeat (first | (with_reducible first | exact HB.out | apply below_alloc | apply pw_below_drewN | apply below_drew1 | refine below_set ?_ GE115.out | refine below_set ?_ GE119.out) | exact HB.out)⟩
          }
          }
          {
          replace c19 := Bool.eq_false_iff.mpr c19
          subst c19
          have H1 : (some false) = some r := by rw [if_neg (show ¬ (false = true) by decide)] at H; exact H
          clear H
          have H := H1
          clear H1
          obtain rfl := Option.some.inj H
          simp only [Option.some.injEq, Prod.mk.injEq] at H
          obtain ⟨rfl⟩ := H
          have p118 : 0 ≤ (x24_2 : Int) := of_decide_eq_true qz3
          have q118 : x24_2 < (l0_2.length : Int) := of_decide_eq_true qz3
          obtain ⟨ad118, e118, hx118_0, hx118_1, hx118_2⟩ := at_T72 HR0_2.out x24_2 p118 q118
          cases e118
          replace hx118_0 := (HB.out.cell (World.block_lt_of_cell? w _ hx118_0)).trans hx118_0
          replace hx118_1 := (HB.out.cell (World.block_lt_of_cell? w _ hx118_1)).trans hx118_1
          replace hx118_2 := (HB.out.cell (World.block_lt_of_cell? w _ hx118_2)).trans hx118_2
          replace p118 := eq_true p118
          replace q118 := eq_true q118
          try go_wp2_with (first | ((with_reducible refine gate_dst (N := 4) rfl ?_); (try (refine gate_guard (by rfl) ?_; dsimp only)); refine box_event ?hg (N := 4) ?hd (cs := #[.int .i64 0, .int .i64 0, .int .i64 0]) (t := 72) ?hr ?_; (case hd => rfl); (case hg => rfl); (case hr => first | (go_simp; done) | (go_simp; rfl)); intro gb119 hg w47 hbox hb; have n0_ := Aside0.mk (blk_below (g := gb115) (o := .cells #[.int .i64 a0_0, .int .i64 a0_1, .slice (some ad118) l0_2.length c0_2] 79 (0, 0)) qz12 hb); have n1_ := Aside0.mk (below_step qz8 hb); have n2_ := Aside0.mk (hbox); have n3_ := Aside0.mk ((by rw [hg]; exact (below_size qz8) : w.heap.size ≤ gb119)); have n4_ := Aside0.mk ((by rw [hg]; exact (below_size qz8) : w.heap.size ≤ gb119)); have n5_ := Aside0.mk ((by rw [hg]; exact Nat.ne_of_lt (blk_lt (g := gb115) (o := .cells #[.int .i64 a0_0, .int .i64 a0_1, .slice (some ad118) l0_2.length c0_2] 79 (0, 0)) qz12) : gb115 ≠ gb119)); have n6_ := Aside0.mk ((by rw [hg]; exact Nat.ne_of_gt (blk_lt (g := gb115) (o := .cells #[.int .i64 a0_0, .int .i64 a0_1, .slice (some ad118) l0_2.length c0_2] 79 (0, 0)) qz12) : gb119 ≠ gb115)); clear BK115; clear HB; have BK115 := n0_; have HB := n1_; have BK119 := n2_; have GW119 := n3_; have GE119 := n4_; have NB115_119 := n5_; have NB119_115 := n6_; clear n0_ n1_ n2_ n3_ n4_ n5_ n6_; clear hb hbox hg; have hnb48 := NB119_115.out; have hnc48 := NB115_119.out; have hcz49_0 : w47.cell? ⟨gb119, 0, none⟩ = some (.int .i64 0) := (blk_cell BK119.out 0).trans rfl; have hcz49_1 : w47.cell? ⟨gb119, 1, none⟩ = some (.int .i64 0) := (blk_cell BK119.out 1).trans rfl; have hcz49_2 : w47.cell? ⟨gb119, 2, none⟩ = some (.int .i64 0) := (blk_cell BK119.out 2).trans rfl; have hfz49_0 := blk_frozen BK119.out 0; have hfz49_1 := blk_frozen BK119.out 1; have hfz49_2 := blk_frozen BK119.out 2))
          generalize hq_ : (((w47.setCell ⟨gb119, 0, none⟩ (.int .i64 ((rd_T72 l0_2 x24_2).f0))).setCell ⟨gb119, 1, none⟩ (.int .i64 ((rd_T72 l0_2 x24_2).f1))).setCell ⟨gb119, 2, none⟩ (.int .i64 ((rd_T72 l0_2 x24_2).f2))) = w50
          have n0_ : Aside0 (w50.heap[gb115]? = some (.cells #[.int .i64 a0_0, .int .i64 a0_1, .slice (some ad118) l0_2.length c0_2] 79 (0, 0))) := ⟨by rw [← hq_]; exact qz7⟩
          have n1_ : Aside0 (w50.heap[gb119]? = some (.cells #[.int .i64 ((rd_T72 l0_2 x24_2).f0), .int .i64 ((rd_T72 l0_2 x24_2).f1), .int .i64 ((rd_T72 l0_2 x24_2).f2)] 72 (0, 0))) := ⟨by rw [← hq_]; exact (by (with_reducible repeat (first | refine blk_drewN ?_ _ | refine blk_drew ?_ | refine blk_alloc ?_ _)); refine blk_put (cs := #[.int .i64 ((rd_T72 l0_2 x24_2).f0), .int .i64 ((rd_T72 l0_2 x24_2).f1), .int .i64 0]) ?_ 2 _ rfl; (with_reducible repeat (first | refine blk_drewN ?_ _ | refine blk_drew ?_ | refine blk_alloc ?_ _)); refine blk_put (cs := #[.int .i64 ((rd_T72 l0_2 x24_2).f0), .int .i64 0, .int .i64 0]) ?_ 1 _ rfl; (with_reducible repeat (first | refine blk_drewN ?_ _ | refine blk_drew ?_ | refine blk_alloc ?_ _)); refine blk_put (cs := #[.int .i64 0, .int .i64 0, .int .i64 0]) ?_ 0 _ rfl; (with_reducible repeat (first | refine blk_drewN ?_ _ | refine blk_drew ?_ | refine blk_alloc ?_ _)); exact BK119.out)⟩
          have n2_ : Aside0 (Below w.heap.size w w50) := ⟨by rw [← hq_]; exact (by repeat (first | (with_reducible first | exact HB.out | apply below_alloc | apply pw_below_drewN | apply below_drew1 | refine below_set ?_ GE115.out | refine below_set ?_ GE119.out) | exact HB.out))⟩
          (try clear BK115)
          (try clear BK119)
          (try clear HB)
          clear hq_
          have BK115 := n0_
          have BK119 := n1_
          have HB := n2_
          clear n0_ n1_ n2_
          have n0_ := Aside0.mk (blk_drew BK115.out)
          have n1_ := Aside0.mk (blk_drew BK119.out)
          have n2_ := Aside0.mk (below_drew1 HB.out)
          clear BK115
          clear BK119
          clear HB
          have BK115 := n0_
          have BK119 := n1_
          have HB := n2_
          clear n0_ n1_ n2_
          refine start_ (n := 34) (S := fun w' => w'.cell? ⟨gb119, 0, none⟩ = some (.int .i64 ((rd_T72 l0_2 x24_2).f0)) ∧ w'.cell? ⟨gb119, 1, none⟩ = some (.int .i64 ((rd_T72 l0_2 x24_2).f1)) ∧ w'.cell? ⟨gb119, 2, none⟩ = some (.int .i64 ((rd_T72 l0_2 x24_2).f2))) (ds := []) #[false, false, false, false, false, false, false, false, false, false, false, false, false, false, false, false, false, false, false, false, false, false, false, false, false, false, false, false, false, false, false, false, false, false] (by kernel_rfl) rfl rfl ⟨(blk_cell BK119.out 0).trans rfl, (blk_cell BK119.out 1).trans rfl, (blk_cell BK119.out 2).trans rfl⟩ (fun hHeld => ?_); refine with_tabW impl_podOk.tab6 impl_podOk.bits6 (fun HT_ HW_ => ?_)
          generalize w50.drew = w51 at BK115 BK119 HB hHeld ⊢
          refine pure_ (i := 0) (N := some 29) (v := ?_) (a' := ?_) (bqz 34 1) rfl rfl qza qzd (Or.inl ⟨by rfl, ?_⟩) ?_ ?_
          rotate_left
          {
          intro w'
          go_simp
          with_reducible rfl
          }
          rotate_left
          {
          simp only [qzs]
          rfl
          }
          refine take_ (i := 1) (N := some 30) (v := ?_) (a' := ?_) (bqz 34 3) rfl rfl qzb qzd (Or.inl ⟨by rfl, ?_⟩) hHeld ?_ ?_
          rotate_left
          {
          rintro w' ⟨s0, s1, s2⟩
          go_simp
          with_reducible rfl
          }
          rotate_left
          {
          simp only [qzs]
          rfl
          }
          refine one_ (i := 2) (N := some 31) (bqz 34 7) rfl rfl qzc (by decide) (fun K hK => ?_)
          refine goes_ Try.func64 (by kernel_rfl) rfl #[.int .i64 ((rd_T72 l0_2 x24_2).f0), .int .i64 1, .int .i64 50] (by rfl) rfl rfl qz2 ?_
          with_reducible refine (impl_in.calls ((rd_T72 l0_2 x24_2).f0) 1 50 true _ A16.out).mono ?_
          rintro e w' ⟨rfl, ⟨nd, rfl⟩⟩
          refine ⟨_, rfl, ?_⟩
          refine hK.out _ _ ⟨(blk_cell BK119.out 0).trans rfl, (blk_cell BK119.out 1).trans rfl, (blk_cell BK119.out 2).trans rfl⟩ (fun hHeld => ?_)
          clear hK K
          refine norm_ (a' := ?_) ?_ ?_
          rotate_left
          {
          show Act.put _ (some 31) _ = _
          simp only [qzs]
          rfl
          }
          refine pure_ (i := 3) (N := some 32) (v := ?_) (a' := ?_) (bqz 34 15) rfl rfl qza qzd (Or.inl ⟨by rfl, ?_⟩) ?_ ?_
          rotate_left
          {
          intro w'
          go_simp
          with_reducible rfl
          }
          rotate_left
          {
          simp only [qzs]
          rfl
          }
          refine pure_ (i := 4) (N := some 33) (v := ?_) (a' := ?_) (bqz 34 31) rfl rfl qza qzd (Or.inl ⟨by rfl, ?_⟩) ?_ ?_
          rotate_left
          {
          intro w'
          go_simp
          with_reducible rfl
          }
          rotate_left
          {
          simp only [qzs]
          rfl
          }
          refine pure_ (i := 5) (N := some 34) (v := ?_) (a' := ?_) (bqz 34 63) rfl rfl qza qzd (Or.inl ⟨by rfl, ?_⟩) ?_ ?_
          rotate_left
          {
          intro w'
          go_simp
          with_reducible rfl
          }
          rotate_left
          {
          simp only [qzs]
          rfl
          }
          refine take_ (i := 6) (N := some 35) (v := ?_) (a' := ?_) (bqz 34 127) rfl rfl qzb qzd (Or.inl ⟨by rfl, ?_⟩) hHeld ?_ ?_
          rotate_left
          {
          rintro w' ⟨s0, s1, s2⟩
          go_simp
          with_reducible rfl
          }
          rotate_left
          {
          simp only [qzs]
          rfl
          }
          refine one_ (i := 7) (N := some 36) (bqz 34 255) rfl rfl qzc (by decide) (fun K hK => ?_)
          refine goes_ Try.func64 (by kernel_rfl) rfl #[.int .i64 ((rd_T72 l0_2 x24_2).f1), .int .i64 1, .int .i64 1000] (by rfl) rfl rfl qz2 ?_
          with_reducible refine (impl_in.calls ((rd_T72 l0_2 x24_2).f1) 1 1000 false _ A18.out).mono ?_
          rintro e w' ⟨rfl, ⟨nd, rfl⟩⟩
          refine ⟨_, rfl, ?_⟩
          refine hK.out _ _ ⟨(blk_cell BK119.out 0).trans rfl, (blk_cell BK119.out 1).trans rfl, (blk_cell BK119.out 2).trans rfl⟩ (fun hHeld => ?_)
          clear hK K
          refine norm_ (a' := ?_) ?_ ?_
          rotate_left
          {
          show Act.put _ (some 36) _ = _
          simp only [qzs]
          rfl
          }
          refine pure_ (i := 8) (N := some 37) (v := ?_) (a' := ?_) (bqz 34 511) rfl rfl qza qzd (Or.inl ⟨by rfl, ?_⟩) ?_ ?_
          rotate_left
          {
          intro w'
          go_simp
          with_reducible rfl
          }
          rotate_left
          {
          simp only [qzs]
          rfl
          }
          refine pure_ (i := 9) (N := some 38) (v := ?_) (a' := ?_) (bqz 34 1023) rfl rfl qza qzd (Or.inl ⟨by rfl, ?_⟩) ?_ ?_
          rotate_left
          {
          intro w'
          go_simp
          with_reducible rfl
          }
          rotate_left
          {
          simp only [qzs]
          rfl
          }
          refine pure_ (i := 10) (N := some 39) (v := ?_) (a' := ?_) (bqz 34 2047) rfl rfl qza qzd (Or.inl ⟨by rfl, ?_⟩) ?_ ?_
          rotate_left
          {
          intro w'
          go_simp
          with_reducible rfl
          }
          rotate_left
          {
          simp only [qzs]
          rfl
          }
          refine pure_ (i := 11) (N := some 40) (v := undef) (a' := ?_) (bqz 34 4095) rfl rfl qza qzd (Or.inr ⟨by rfl, rfl⟩) ?_ ?_
          rotate_left
          {
          simp only [qzs]
          rfl
          }
          refine pure_ (i := 12) (N := some 41) (v := undef) (a' := ?_) (bqz 34 8191) rfl rfl qza qzd (Or.inr ⟨by rfl, rfl⟩) ?_ ?_
          rotate_left
          {
          simp only [qzs]
          rfl
          }
          refine pure_ (i := 13) (N := some 42) (v := undef) (a' := ?_) (bqz 34 16383) rfl rfl qza qzd (Or.inr ⟨by rfl, rfl⟩) ?_ ?_
          rotate_left
          {
          simp only [qzs]
          rfl
          }
          refine pure_ (i := 14) (N := some 43) (v := undef) (a' := ?_) (bqz 34 32767) rfl rfl qza qzd (Or.inr ⟨by rfl, rfl⟩) ?_ ?_
          rotate_left
          {
          simp only [qzs]
          rfl
          }
          refine pure_ (i := 15) (N := some 44) (v := undef) (a' := ?_) (bqz 34 65535) rfl rfl qza qzd (Or.inr ⟨by rfl, rfl⟩) ?_ ?_
          rotate_left
          {
          simp only [qzs]
          rfl
          }
          refine pure_ (i := 16) (N := some 45) (v := undef) (a' := ?_) (bqz 34 131071) rfl rfl qza qzd (Or.inr ⟨by rfl, rfl⟩) ?_ ?_
          rotate_left
          {
          simp only [qzs]
          rfl
          }
          refine pure_ (i := 17) (N := some 46) (v := ?_) (a' := ?_) (bqz 34 262143) rfl rfl qza qzd (Or.inl ⟨by rfl, ?_⟩) ?_ ?_
          rotate_left
          {
          intro w'
          go_simp
          with_reducible rfl
          }
          rotate_left
          {
          simp only [qzs]
          rfl
          }
          refine pure_ (i := 18) (N := some 47) (v := ?_) (a' := ?_) (bqz 34 524287) rfl rfl qza qzd (Or.inl ⟨by rfl, ?_⟩) ?_ ?_
          rotate_left
          {
          intro w'
          go_simp
          with_reducible rfl
          }
          rotate_left
          {
          simp only [qzs]
          rfl
          }
          refine pure_ (i := 19) (N := some 48) (v := undef) (a' := ?_) (bqz 34 1048575) rfl rfl qza qzd (Or.inr ⟨by rfl, rfl⟩) ?_ ?_
          rotate_left
          {
          simp only [qzs]
          rfl
          }
          refine pure_ (i := 20) (N := some 49) (v := undef) (a' := ?_) (bqz 34 2097151) rfl rfl qza qzd (Or.inr ⟨by rfl, rfl⟩) ?_ ?_
          rotate_left
          {
          simp only [qzs]
          rfl
          }
          refine pure_ (i := 21) (N := some 50) (v := undef) (a' := ?_) (bqz 34 4194303) rfl rfl qza qzd (Or.inr ⟨by rfl, rfl⟩) ?_ ?_
          rotate_left
          {
          simp only [qzs]
          rfl
          }
          refine pure_ (i := 22) (N := some 51) (v := undef) (a' := ?_) (bqz 34 8388607) rfl rfl qza qzd (Or.inr ⟨by rfl, rfl⟩) ?_ ?_
          rotate_left
          {
          simp only [qzs]
          rfl
          }
          refine pure_ (i := 23) (N := some 52) (v := undef) (a' := ?_) (bqz 34 16777215) rfl rfl qza qzd (Or.inr ⟨by rfl, rfl⟩) ?_ ?_
          rotate_left
          {
          simp only [qzs]
          rfl
          }
          refine pure_ (i := 24) (N := some 53) (v := undef) (a' := ?_) (bqz 34 33554431) rfl rfl qza qzd (Or.inr ⟨by rfl, rfl⟩) ?_ ?_
          rotate_left
          {
          simp only [qzs]
          rfl
          }
          refine pure_ (i := 25) (N := some 54) (v := undef) (a' := ?_) (bqz 34 67108863) rfl rfl qza qzd (Or.inr ⟨by rfl, rfl⟩) ?_ ?_
          rotate_left
          {
          simp only [qzs]
          rfl
          }
          refine pure_ (i := 26) (N := some 55) (v := undef) (a' := ?_) (bqz 34 134217727) rfl rfl qza qzd (Or.inr ⟨by rfl, rfl⟩) ?_ ?_
          rotate_left
          {
          simp only [qzs]
          rfl
          }
          refine pure_ (i := 27) (N := some 56) (v := undef) (a' := ?_) (bqz 34 268435455) rfl rfl qza qzd (Or.inr ⟨by rfl, rfl⟩) ?_ ?_
          rotate_left
          {
          simp only [qzs]
          rfl
          }
          refine pure_ (i := 28) (N := some 57) (v := undef) (a' := ?_) (bqz 34 536870911) rfl rfl qza qzd (Or.inr ⟨by rfl, rfl⟩) ?_ ?_
          rotate_left
          {
          simp only [qzs]
          rfl
          }
          refine pure_ (i := 29) (N := some 58) (v := undef) (a' := ?_) (bqz 34 1073741823) rfl rfl qza qzd (Or.inr ⟨by rfl, rfl⟩) ?_ ?_
          rotate_left
          {
          simp only [qzs]
          rfl
          }
          refine pure_ (i := 30) (N := some 59) (v := undef) (a' := ?_) (bqz 34 2147483647) rfl rfl qza qzd (Or.inr ⟨by rfl, rfl⟩) ?_ ?_
          rotate_left
          {
          simp only [qzs]
          rfl
          }
          refine pure_ (i := 31) (N := some 60) (v := undef) (a' := ?_) (bqz 34 4294967295) rfl rfl qza qzd (Or.inr ⟨by rfl, rfl⟩) ?_ ?_
          rotate_left
          {
          simp only [qzs]
          rfl
          }
          refine pure_ (i := 32) (N := some 61) (v := undef) (a' := ?_) (bqz 34 8589934591) rfl rfl qza qzd (Or.inr ⟨by rfl, rfl⟩) ?_ ?_
          rotate_left
          {
          simp only [qzs]
          rfl
          }
          refine pure_ (i := 33) (N := some 62) (v := ?_) (a' := ?_) (bqz 34 17179869183) rfl rfl qza qzd (Or.inl ⟨by rfl, ?_⟩) ?_ ?_
          rotate_left
          {
          intro w'
          go_simp
          with_reducible rfl
          }
          rotate_left
          {
          simp only [qzs]
          rfl
          }
          refine done_ (done_of HT_.out (by kernel_rfl)) ?_
          try go_wp2
          go_ret
          exact ⟨by first | rfl | (simp [errW_none, errW_some] <;> rfl) | (simp [*, errW_none, errW_some] <;> rfl), by repeat (first | (with_reducible first | exact HB.out | apply below_alloc | apply pw_below_drewN | apply below_drew1 | refine below_set ?_ GE115.out | refine below_set ?_ GE119.out) | exact HB.out)⟩
          }
          }
          {
          replace c17 := Bool.eq_false_iff.mpr c17
          subst c17
          have H1 : (some false) = some r := by rw [if_neg (show ¬ (false = true) by decide)] at H; exact H
          clear H
          have H := H1
          clear H1
          obtain rfl := Option.some.inj H
          simp only [Option.some.injEq, Prod.mk.injEq] at H
          obtain ⟨rfl⟩ := H
          have p118 : 0 ≤ (x24_2 : Int) := of_decide_eq_true qz3
          have q118 : x24_2 < (l0_2.length : Int) := of_decide_eq_true qz3
          obtain ⟨ad118, e118, hx118_0, hx118_1, hx118_2⟩ := at_T72 HR0_2.out x24_2 p118 q118
          cases e118
          replace hx118_0 := (HB.out.cell (World.block_lt_of_cell? w _ hx118_0)).trans hx118_0
          replace hx118_1 := (HB.out.cell (World.block_lt_of_cell? w _ hx118_1)).trans hx118_1
          replace hx118_2 := (HB.out.cell (World.block_lt_of_cell? w _ hx118_2)).trans hx118_2
          replace p118 := eq_true p118
          replace q118 := eq_true q118
          try go_wp2_with (first | ((with_reducible refine gate_dst (N := 4) rfl ?_); (try (refine gate_guard (by rfl) ?_; dsimp only)); refine box_event ?hg (N := 4) ?hd (cs := #[.int .i64 0, .int .i64 0, .int .i64 0]) (t := 72) ?hr ?_; (case hd => rfl); (case hg => rfl); (case hr => first | (go_simp; done) | (go_simp; rfl)); intro gb119 hg w52 hbox hb; have n0_ := Aside0.mk (blk_below (g := gb115) (o := .cells #[.int .i64 a0_0, .int .i64 a0_1, .slice (some ad118) l0_2.length c0_2] 79 (0, 0)) qz12 hb); have n1_ := Aside0.mk (below_step qz8 hb); have n2_ := Aside0.mk (hbox); have n3_ := Aside0.mk ((by rw [hg]; exact (below_size qz8) : w.heap.size ≤ gb119)); have n4_ := Aside0.mk ((by rw [hg]; exact (below_size qz8) : w.heap.size ≤ gb119)); have n5_ := Aside0.mk ((by rw [hg]; exact Nat.ne_of_lt (blk_lt (g := gb115) (o := .cells #[.int .i64 a0_0, .int .i64 a0_1, .slice (some ad118) l0_2.length c0_2] 79 (0, 0)) qz12) : gb115 ≠ gb119)); have n6_ := Aside0.mk ((by rw [hg]; exact Nat.ne_of_gt (blk_lt (g := gb115) (o := .cells #[.int .i64 a0_0, .int .i64 a0_1, .slice (some ad118) l0_2.length c0_2] 79 (0, 0)) qz12) : gb119 ≠ gb115)); clear BK115; clear HB; have BK115 := n0_; have HB := n1_; have BK119 := n2_; have GW119 := n3_; have GE119 := n4_; have NB115_119 := n5_; have NB119_115 := n6_; clear n0_ n1_ n2_ n3_ n4_ n5_ n6_; clear hb hbox hg; have hnb53 := NB119_115.out; have hnc53 := NB115_119.out; have hcz54_0 : w52.cell? ⟨gb119, 0, none⟩ = some (.int .i64 0) := (blk_cell BK119.out 0).trans rfl; have hcz54_1 : w52.cell? ⟨gb119, 1, none⟩ = some (.int .i64 0) := (blk_cell BK119.out 1).trans rfl; have hcz54_2 : w52.cell? ⟨gb119, 2, none⟩ = some (.int .i64 0) := (blk_cell BK119.out 2).trans rfl; have hfz54_0 := blk_frozen BK119.out 0; have hfz54_1 := blk_frozen BK119.out 1; have hfz54_2 := blk_frozen BK119.out 2))
          generalize hq_ : (((w52.setCell ⟨gb119, 0, none⟩ (.int .i64 ((rd_T72 l0_2 x24_2).f0))).setCell ⟨gb119, 1, none⟩ (.int .i64 ((rd_T72 l0_2 x24_2).f1))).setCell ⟨gb119, 2, none⟩ (.int .i64 ((rd_T72 l0_2 x24_2).f2))) = w55
          have n0_ : Aside0 (w55.heap[gb115]? = some (.cells #[.int .i64 a0_0, .int .i64 a0_1, .slice (some ad118) l0_2.length c0_2] 79 (0, 0))) := ⟨by rw [← hq_]; exact qz7⟩
          have n1_ : Aside0 (w55.heap[gb119]? = some (.cells #[.int .i64 ((rd_T72 l0_2 x24_2).f0), .int .i64 ((rd_T72 l0_2 x24_2).f1), .int .i64 ((rd_T72 l0_2 x24_2).f2)] 72 (0, 0))) := ⟨by rw [← hq_]; exact (by (with_reducible repeat (first | refine blk_drewN ?_ _ | refine blk_drew ?_ | refine blk_alloc ?_ _)); refine blk_put (cs := #[.int .i64 ((rd_T72 l0_2 x24_2).f0), .int .i64 ((rd_T72 l0_2 x24_2).f1), .int .i64 0]) ?_ 2 _ rfl; (with_reducible repeat (first | refine blk_drewN ?_ _ | refine blk_drew ?_ | refine blk_alloc ?_ _)); refine blk_put (cs := #[.int .i64 ((rd_T72 l0_2 x24_2).f0), .int .i64 0, .int .i64 0]) ?_ 1 _ rfl; (with_reducible repeat (first | refine blk_drewN ?_ _ | refine blk_drew ?_ | refine blk_alloc ?_ _)); refine blk_put (cs := #[.int .i64 0, .int .i64 0, .int .i64 0]) ?_ 0 _ rfl; (with_reducible repeat (first | refine blk_drewN ?_ _ | refine blk_drew ?_ | refine blk_alloc ?_ _)); exact BK119.out)⟩
          have n2_ : Aside0 (Below w.heap.size w w55) := ⟨by rw [← hq_]; exact (by repeat (first | (with_reducible first | exact HB.out | apply below_alloc | apply pw_below_drewN | apply below_drew1 | refine below_set ?_ GE115.out | refine below_set ?_ GE119.out) | exact HB.out))⟩
          (try clear BK115)
          (try clear BK119)
          (try clear HB)
          clear hq_
          have BK115 := n0_
          have BK119 := n1_
          have HB := n2_
          clear n0_ n1_ n2_
          have n0_ := Aside0.mk (blk_drew BK115.out)
          have n1_ := Aside0.mk (blk_drew BK119.out)
          have n2_ := Aside0.mk (below_drew1 HB.out)
          clear BK115
          clear BK119
          clear HB
          have BK115 := n0_
          have BK119 := n1_
          have HB := n2_
          clear n0_ n1_ n2_
          refine start_ (n := 34) (S := fun w' => w'.cell? ⟨gb119, 0, none⟩ = some (.int .i64 ((rd_T72 l0_2 x24_2).f0)) ∧ w'.cell? ⟨gb119, 1, none⟩ = some (.int .i64 ((rd_T72 l0_2 x24_2).f1)) ∧ w'.cell? ⟨gb119, 2, none⟩ = some (.int .i64 ((rd_T72 l0_2 x24_2).f2))) (ds := []) #[false, false, false, false, false, false, false, false, false, false, false, false, false, false, false, false, false, false, false, false, false, false, false, false, false, false, false, false, false, false, false, false, false, false] (by kernel_rfl) rfl rfl ⟨(blk_cell BK119.out 0).trans rfl, (blk_cell BK119.out 1).trans rfl, (blk_cell BK119.out 2).trans rfl⟩ (fun hHeld => ?_); refine with_tabW impl_podOk.tab6 impl_podOk.bits6 (fun HT_ HW_ => ?_)
          generalize w55.drew = w56 at BK115 BK119 HB hHeld ⊢
          refine pure_ (i := 0) (N := some 29) (v := ?_) (a' := ?_) (bqz 34 1) rfl rfl qza qzd (Or.inl ⟨by rfl, ?_⟩) ?_ ?_
          rotate_left
          {
          intro w'
          go_simp
          with_reducible rfl
          }
          rotate_left
          {
          simp only [qzs]
          rfl
          }
          refine take_ (i := 1) (N := some 30) (v := ?_) (a' := ?_) (bqz 34 3) rfl rfl qzb qzd (Or.inl ⟨by rfl, ?_⟩) hHeld ?_ ?_
          rotate_left
          {
          rintro w' ⟨s0, s1, s2⟩
          go_simp
          with_reducible rfl
          }
          rotate_left
          {
          simp only [qzs]
          rfl
          }
          refine one_ (i := 2) (N := some 31) (bqz 34 7) rfl rfl qzc (by decide) (fun K hK => ?_)
          refine goes_ Try.func64 (by kernel_rfl) rfl #[.int .i64 ((rd_T72 l0_2 x24_2).f0), .int .i64 1, .int .i64 50] (by rfl) rfl rfl qz2 ?_
          with_reducible refine (impl_in.calls ((rd_T72 l0_2 x24_2).f0) 1 50 false _ A16.out).mono ?_
          rintro e w' ⟨rfl, ⟨nd, rfl⟩⟩
          refine ⟨_, rfl, ?_⟩
          refine hK.out _ _ ⟨(blk_cell BK119.out 0).trans rfl, (blk_cell BK119.out 1).trans rfl, (blk_cell BK119.out 2).trans rfl⟩ (fun hHeld => ?_)
          clear hK K
          refine norm_ (a' := ?_) ?_ ?_
          rotate_left
          {
          show Act.put _ (some 31) _ = _
          simp only [qzs]
          rfl
          }
          refine pure_ (i := 3) (N := some 32) (v := ?_) (a' := ?_) (bqz 34 15) rfl rfl qza qzd (Or.inl ⟨by rfl, ?_⟩) ?_ ?_
          rotate_left
          {
          intro w'
          go_simp
          with_reducible rfl
          }
          rotate_left
          {
          simp only [qzs]
          rfl
          }
          refine pure_ (i := 4) (N := some 33) (v := ?_) (a' := ?_) (bqz 34 31) rfl rfl qza qzd (Or.inl ⟨by rfl, ?_⟩) ?_ ?_
          rotate_left
          {
          intro w'
          go_simp
          with_reducible rfl
          }
          rotate_left
          {
          simp only [qzs]
          rfl
          }
          refine pure_ (i := 5) (N := some 34) (v := undef) (a' := ?_) (bqz 34 63) rfl rfl qza qzd (Or.inr ⟨by rfl, rfl⟩) ?_ ?_
          rotate_left
          {
          simp only [qzs]
          rfl
          }
          refine pure_ (i := 6) (N := some 35) (v := undef) (a' := ?_) (bqz 34 127) rfl rfl qza qzd (Or.inr ⟨by rfl, rfl⟩) ?_ ?_
          rotate_left
          {
          simp only [qzs]
          rfl
          }
          refine pure_ (i := 7) (N := some 36) (v := undef) (a' := ?_) (bqz 34 255) rfl rfl qza qzd (Or.inr ⟨by rfl, rfl⟩) ?_ ?_
          rotate_left
          {
          simp only [qzs]
          rfl
          }
          refine pure_ (i := 8) (N := some 37) (v := undef) (a' := ?_) (bqz 34 511) rfl rfl qza qzd (Or.inr ⟨by rfl, rfl⟩) ?_ ?_
          rotate_left
          {
          simp only [qzs]
          rfl
          }
          refine pure_ (i := 9) (N := some 38) (v := ?_) (a' := ?_) (bqz 34 1023) rfl rfl qza qzd (Or.inl ⟨by rfl, ?_⟩) ?_ ?_
          rotate_left
          {
          intro w'
          go_simp
          with_reducible rfl
          }
          rotate_left
          {
          simp only [qzs]
          rfl
          }
          refine pure_ (i := 10) (N := some 39) (v := ?_) (a' := ?_) (bqz 34 2047) rfl rfl qza qzd (Or.inl ⟨by rfl, ?_⟩) ?_ ?_
          rotate_left
          {
          intro w'
          go_simp
          with_reducible rfl
          }
          rotate_left
          {
          simp only [qzs]
          rfl
          }
          refine pure_ (i := 11) (N := some 40) (v := undef) (a' := ?_) (bqz 34 4095) rfl rfl qza qzd (Or.inr ⟨by rfl, rfl⟩) ?_ ?_
          rotate_left
          {
          simp only [qzs]
          rfl
          }
          refine pure_ (i := 12) (N := some 41) (v := undef) (a' := ?_) (bqz 34 8191) rfl rfl qza qzd (Or.inr ⟨by rfl, rfl⟩) ?_ ?_
          rotate_left
          {
          simp only [qzs]
          rfl
          }
          refine pure_ (i := 13) (N := some 42) (v := undef) (a' := ?_) (bqz 34 16383) rfl rfl qza qzd (Or.inr ⟨by rfl, rfl⟩) ?_ ?_
          rotate_left
          {
          simp only [qzs]
          rfl
          }
          refine pure_ (i := 14) (N := some 43) (v := undef) (a' := ?_) (bqz 34 32767) rfl rfl qza qzd (Or.inr ⟨by rfl, rfl⟩) ?_ ?_
          rotate_left
          {
          simp only [qzs]
          rfl
          }
          refine pure_ (i := 15) (N := some 44) (v := undef) (a' := ?_) (bqz 34 65535) rfl rfl qza qzd (Or.inr ⟨by rfl, rfl⟩) ?_ ?_
          rotate_left
          {
          simp only [qzs]
          rfl
          }
          refine pure_ (i := 16) (N := some 45) (v := undef) (a' := ?_) (bqz 34 131071) rfl rfl qza qzd (Or.inr ⟨by rfl, rfl⟩) ?_ ?_
          rotate_left
          {
          simp only [qzs]
          rfl
          }
          refine pure_ (i := 17) (N := some 46) (v := ?_) (a' := ?_) (bqz 34 262143) rfl rfl qza qzd (Or.inl ⟨by rfl, ?_⟩) ?_ ?_
          rotate_left
          {
          intro w'
          go_simp
          with_reducible rfl
          }
          rotate_left
          {
          simp only [qzs]
          rfl
          }
          refine pure_ (i := 18) (N := some 47) (v := ?_) (a' := ?_) (bqz 34 524287) rfl rfl qza qzd (Or.inl ⟨by rfl, ?_⟩) ?_ ?_
          rotate_left
          {
          intro w'
          go_simp
          with_reducible rfl
          }
          rotate_left
          {
          simp only [qzs]
          rfl
          }
          refine pure_ (i := 19) (N := some 48) (v := undef) (a' := ?_) (bqz 34 1048575) rfl rfl qza qzd (Or.inr ⟨by rfl, rfl⟩) ?_ ?_
          rotate_left
          {
          simp only [qzs]
          rfl
          }
          refine pure_ (i := 20) (N := some 49) (v := undef) (a' := ?_) (bqz 34 2097151) rfl rfl qza qzd (Or.inr ⟨by rfl, rfl⟩) ?_ ?_
          rotate_left
          {
          simp only [qzs]
          rfl
          }
          refine pure_ (i := 21) (N := some 50) (v := undef) (a' := ?_) (bqz 34 4194303) rfl rfl qza qzd (Or.inr ⟨by rfl, rfl⟩) ?_ ?_
          rotate_left
          {
          simp only [qzs]
          rfl
          }
          refine pure_ (i := 22) (N := some 51) (v := undef) (a' := ?_) (bqz 34 8388607) rfl rfl qza qzd (Or.inr ⟨by rfl, rfl⟩) ?_ ?_
          rotate_left
          {
          simp only [qzs]
          rfl
          }
          refine pure_ (i := 23) (N := some 52) (v := undef) (a' := ?_) (bqz 34 16777215) rfl rfl qza qzd (Or.inr ⟨by rfl, rfl⟩) ?_ ?_
          rotate_left
          {
          simp only [qzs]
          rfl
          }
          refine pure_ (i := 24) (N := some 53) (v := undef) (a' := ?_) (bqz 34 33554431) rfl rfl qza qzd (Or.inr ⟨by rfl, rfl⟩) ?_ ?_
          rotate_left
          {
          simp only [qzs]
          rfl
          }
          refine pure_ (i := 25) (N := some 54) (v := undef) (a' := ?_) (bqz 34 67108863) rfl rfl qza qzd (Or.inr ⟨by rfl, rfl⟩) ?_ ?_
          rotate_left
          {
          simp only [qzs]
          rfl
          }
          refine pure_ (i := 26) (N := some 55) (v := undef) (a' := ?_) (bqz 34 134217727) rfl rfl qza qzd (Or.inr ⟨by rfl, rfl⟩) ?_ ?_
          rotate_left
          {
          simp only [qzs]
          rfl
          }
          refine pure_ (i := 27) (N := some 56) (v := undef) (a' := ?_) (bqz 34 268435455) rfl rfl qza qzd (Or.inr ⟨by rfl, rfl⟩) ?_ ?_
          rotate_left
          {
          simp only [qzs]
          rfl
          }
          refine pure_ (i := 28) (N := some 57) (v := undef) (a' := ?_) (bqz 34 536870911) rfl rfl qza qzd (Or.inr ⟨by rfl, rfl⟩) ?_ ?_
          rotate_left
          {
          simp only [qzs]
          rfl
          }
          refine pure_ (i := 29) (N := some 58) (v := undef) (a' := ?_) (bqz 34 1073741823) rfl rfl qza qzd (Or.inr ⟨by rfl, rfl⟩) ?_ ?_
          rotate_left
          {
          simp only [qzs]
          rfl
          }
          refine pure_ (i := 30) (N := some 59) (v := undef) (a' := ?_) (bqz 34 2147483647) rfl rfl qza qzd (Or.inr ⟨by rfl, rfl⟩) ?_ ?_
          rotate_left
          {
          simp only [qzs]
          rfl
          }
          refine pure_ (i := 31) (N := some 60) (v := undef) (a' := ?_) (bqz 34 4294967295) rfl rfl qza qzd (Or.inr ⟨by rfl, rfl⟩) ?_ ?_
          rotate_left
          {
          simp only [qzs]
          rfl
          }
          refine pure_ (i := 32) (N := some 61) (v := undef) (a' := ?_) (bqz 34 8589934591) rfl rfl qza qzd (Or.inr ⟨by rfl, rfl⟩) ?_ ?_
          rotate_left
          {
          simp only [qzs]
          rfl
          }
          refine pure_ (i := 33) (N := some 62) (v := ?_) (a' := ?_) (bqz 34 17179869183) rfl rfl qza qzd (Or.inl ⟨by rfl, ?_⟩) ?_ ?_
          rotate_left
          {
          intro w'
          go_simp
          with_reducible rfl
          }
          rotate_left
          {
          simp only [qzs]
          rfl
          }
          refine done_ (done_of HT_.out (by kernel_rfl)) ?_
          try go_wp2
          go_ret
          exact ⟨by first | rfl | (simp [errW_none, errW_some] <;> rfl) | (simp [*, errW_none, errW_some] <;> rfl), by repeat (first | (with_reducible first | exact HB.out | apply below_alloc | apply pw_below_drewN | apply below_drew1 | refine below_set ?_ GE115.out | refine below_set ?_ GE119.out) | exact HB.out)⟩
          }
          }
          {
          rw [if_neg c15] at H
          exact absurd H (by simp)
          }
          }
          {
          rw [if_neg c14] at H
          exact absurd H (by simp)
          }
          }
          {
          rw [if_neg c13] at H
          have c13b0 : decide (x24_2 < (l0_2.length : Int)) = false := decide_eq_false c13
          clear c13
          obtain rfl := Option.some.inj H
          simp only [Option.some.injEq, Prod.mk.injEq] at H
          obtain ⟨rfl⟩ := H
          go_wp2
          go_ret
          exact ⟨by first | rfl | (simp [errW_none, errW_some] <;> rfl) | (simp [*, errW_none, errW_some] <;> rfl), by repeat (first | (with_reducible first | exact HB.out | apply below_alloc | apply pw_below_drewN | apply below_drew1 | refine below_set ?_ GE115.out) | exact HB.out)⟩

          }
      }
end Go.Proofs.Yteajnkondkfmgaa.PFnExactPutIn
