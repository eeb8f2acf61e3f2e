-- Made by a program of this session out of the translation. Lean checks it.
import Derived.Test.YtankmdbbgepmbaaPFnChosenx1
import Derived.Test.YtankmdbbgepmbaaPFnChosenx9
namespace Go.Proofs.Ytankmdbbgepmbaa.PFnChosen
open Go.RowKit Go.Proofs.YtankmdbbgepmbaaW.PrintWords Go.Proofs.YtankmdbbgepmbaaW.PrintLast Go.Proofs.YtankmdbbgepmbaaW.PrintMore
attribute [local go_sem] max2_int min2_int max_two min_two max_three min_three max_four min_four   -- for this text's walks alone
set_option linter.unusedVariables false
set_option linter.unusedSimpArgs false

/-! ### spec_ParseFloor: function 106 -/
mutual
def spec_ParseFloor.l0 : Nat → List ByteArray → Int → Int → Int → List Int → Option (Int × Int × List Int × Int)
 | 0, _, _, _, _, _ => none
 | k + 1, x4, x6, x346000, x346001, x346002 => if x6 < (x4.length : Int) then (if x6 = (wrap64 ((x4.length : Int) - 1)) then (if 0 ≤ x6 then (if (rdOf ByteArray.empty x4 x6).toList = ([] : List UInt8) then (spec_ParseFloor.j1 k x4 x6 (x6 == (wrap64 ((x4.length : Int) - 1))) (decide (x6 > 0)) x346000 x346001 x346002) else (spec_ParseFloor.j1 k x4 x6 (x6 == (wrap64 ((x4.length : Int) - 1))) false x346000 x346001 x346002)) else (none)) else (spec_ParseFloor.j1 k x4 x6 (x6 == (wrap64 ((x4.length : Int) - 1))) false x346000 x346001 x346002)) else (some (x346000, x346001, x346002, (-1)))
def spec_ParseFloor.j1 : Nat → List ByteArray → Int → Bool → Bool → Int → Int → List Int → Option (Int × Int × List Int × Int)
 | 0, _, _, _, _, _, _, _ => none
 | k + 1, x4, x6, x7, x39, x346000, x346001, x346002 => if x39 = true then (some (x346000, x346001, x346002, (-1))) else (if x7 = true then (spec_ParseFloor.j2 k x4 x6 true x346000 x346001 x346002) else (if x6 = 10 then (spec_ParseFloor.j2 k x4 x6 true x346000 x346001 x346002) else (if 0 ≤ x6 then (if x6 < (x4.length : Int) then ((spec_l1In.f ((rdOf ByteArray.empty x4 x6).size : Int) 1 10).bind fun t348 => (if t348 = true then (spec_ParseFloor.j2 k x4 x6 (((rdOf ByteArray.empty x4 x6).size : Int) != x346000) x346000 x346001 x346002) else (spec_ParseFloor.j2 k x4 x6 true x346000 x346001 x346002))) else (none)) else (none))))
def spec_ParseFloor.j2 : Nat → List ByteArray → Int → Bool → Int → Int → List Int → Option (Int × Int × List Int × Int)
 | 0, _, _, _, _, _, _ => none
 | k + 1, x4, x6, x63, x346000, x346001, x346002 => if x63 = true then (some (0, 0, ([] : List Int), x6)) else (spec_ParseFloor.l1 k x4 x6 0 x346000 x346001 x346002)
def spec_ParseFloor.l1 : Nat → List ByteArray → Int → Int → Int → Int → List Int → Option (Int × Int × List Int × Int)
 | 0, _, _, _, _, _, _ => none
 | k + 1, x4, x6, x8, x346000, x346001, x346002 => if 0 ≤ x6 then (if x6 < (x4.length : Int) then (if x8 < ((rdOf ByteArray.empty x4 x6).size : Int) then (if 0 ≤ x8 then ((spec_l1Mark.f k (bt (rdOf ByteArray.empty x4 x6) x8)).bind fun t352 => (if t352 < 0 then (some (0, 0, ([] : List Int), x6)) else (if x346002.length < 17592186044416 then (spec_ParseFloor.l1 k x4 x6 (wrap64 (x8 + 1)) x346000 x346001 (x346002 ++ [t352])) else (none)))) else (none)) else (spec_ParseFloor.l0 k x4 (wrap64 (x6 + 1)) x346000 (wrap64 (x346001 + 1)) x346002)) else (none)) else (none)
end
def spec_ParseFloor.f (k : Nat) (a0 : ByteArray) : Option (Int × Int × List Int × Int) := (spec_l1Split.f k a0 10).bind fun t341 => (if 0 < (t341.length : Int) then (spec_ParseFloor.l0 k t341 0 ((rdOf ByteArray.empty t341 0).size : Int) 0 ([] : List Int)) else (none))
theorem spec_ParseFloor.mono_l : ∀ k, (∀ y0 y1 y2 y3 y4, LeO (spec_ParseFloor.l0 k y0 y1 y2 y3 y4) (spec_ParseFloor.l0 (k + 1) y0 y1 y2 y3 y4)) ∧ (∀ y0 y1 y2 y3 y4 y5 y6, LeO (spec_ParseFloor.j1 k y0 y1 y2 y3 y4 y5 y6) (spec_ParseFloor.j1 (k + 1) y0 y1 y2 y3 y4 y5 y6)) ∧ (∀ y0 y1 y2 y3 y4 y5, LeO (spec_ParseFloor.j2 k y0 y1 y2 y3 y4 y5) (spec_ParseFloor.j2 (k + 1) y0 y1 y2 y3 y4 y5)) ∧ (∀ y0 y1 y2 y3 y4 y5, LeO (spec_ParseFloor.l1 k y0 y1 y2 y3 y4 y5) (spec_ParseFloor.l1 (k + 1) y0 y1 y2 y3 y4 y5))
 | 0 => ⟨fun _ _ _ _ _ r h => by simp [spec_ParseFloor.l0] at h, fun _ _ _ _ _ _ _ r h => by simp [spec_ParseFloor.j1] at h, fun _ _ _ _ _ _ r h => by simp [spec_ParseFloor.j2] at h, fun _ _ _ _ _ _ r h => by simp [spec_ParseFloor.l1] at h⟩
 | k + 1 => by
  obtain ⟨ih0, ih1, ih2, ih3⟩ := spec_ParseFloor.mono_l k
  refine ⟨?_, ?_, ?_, ?_⟩
  {
  intro y0 y1 y2 y3 y4
  unfold spec_ParseFloor.l0
  have j0 := @spec_l1Mark.mono
  have j1 := @spec_l1Split.mono
  exact qL
  }
  {
  intro y0 y1 y2 y3 y4 y5 y6
  unfold spec_ParseFloor.j1
  have j0 := @spec_l1Mark.mono
  have j1 := @spec_l1Split.mono
  exact qL
  }
  {
  intro y0 y1 y2 y3 y4 y5
  unfold spec_ParseFloor.j2
  have j0 := @spec_l1Mark.mono
  have j1 := @spec_l1Split.mono
  exact qL
  }
  {
  intro y0 y1 y2 y3 y4 y5
  unfold spec_ParseFloor.l1
  have j0 := @spec_l1Mark.mono
  have j1 := @spec_l1Split.mono
  exact qL
  }
theorem spec_ParseFloor.mono : ∀ a0 k, LeO (spec_ParseFloor.f k a0) (spec_ParseFloor.f (k + 1) a0) := by
 intro a0 k
 obtain ⟨ih0, ih1, ih2, ih3⟩ := spec_ParseFloor.mono_l k
 unfold spec_ParseFloor.f
 have j0 := @spec_l1Mark.mono
 have j1 := @spec_l1Split.mono
 exact qL
set_option maxHeartbeats 8000000 in
set_option maxRecDepth 100000 in
theorem spec_ParseFloor.calls (k : Nat) (a0 : ByteArray) (r1 : Int) (r2 : Int) (r3 : List Int) (r4 : Int) (w : World) (h : spec_ParseFloor.f k a0 = some (r1, r2, r3, r4)) :
  Calls Try.prog 106 #[.string a0] w fun e w' => ∃ v2_ : Value, e = .returned (.tuple #[.agg #[.int .i64 r1, .int .i64 r2, v2_], .int .i64 r4]) ∧ Kd.R (Kd.int .i64) 3 w' w.heap.size (fun _ => True) v2_ r3 ∧ Below w.heap.size w w' := by
 have hu43 := Try.underlying43
 have HB := aM (Below.refl w.heap.size w)
 have H : ((spec_l1Split.f k a0 10).bind fun t341 => (if 0 < (t341.length : Int) then (spec_ParseFloor.l0 k t341 0 ((rdOf ByteArray.empty t341 0).size : Int) 0 ([] : List Int)) else (none))) = some (r1, r2, r3, r4) := h
 clear h
 replace H := Option.bind_eq_some_iff.mp H
 obtain ⟨t341, A20, H⟩ := H
 replace H : (if 0 < (t341.length : Int) then (spec_ParseFloor.l0 k t341 0 ((rdOf ByteArray.empty t341 0).size : Int) 0 ([] : List Int)) else (none)) = some (r1, r2, r3, r4) := H
 have A2 := aM A20
 clear A20
 by_cases c3 : 0 < (t341.length : Int)
 {
 rw [if_pos c3] at H
 have c3b0 := decide_eq_true c3
 have c3b1 : decide (0 < t341.length) = true := decide_eq_true (by omega)
 clear c3
 have H' := aM H
 clear H
 go_enter Try.func106, Try.ntmps106
 go_wp2_with (first | ((with_reducible refine gate_dst (N := 2) rfl ?_); (try (refine gate_guard (by rfl) ?_; dsimp only)); refine bx_ 2 #[.int .i64 0, .int .i64 0, .slice none 0 0] 43 ?_; intro gb340 hg w4 hbox hb; have BK340 := aM (hbox); have GW340 := aM (bz_ w hg qz1); have GE340 := GW340; replace HB := bS_ hb; clear hb hbox hg) | (go_at_call 126; (with_reducible refine (spec_l1Split.calls k a0 10 t341 _ A2.out).mono ?_); rintro e w5 ⟨v342, rfl, ho0, hb⟩; have HO343 := aM (Kd.R_lower ho0 (below_size qz1)); replace BK340 := bB_ BK340 hb; replace HB := bS_ hb; (try clear hb ho0); obtain ⟨Ao6, co6, eo6⟩ := Kd.R_slice HO343.out; subst eo6; have p344 : 0 ≤ (0 : Int) := (by omega); have q344 : 0 < (t341.length : Int) := dt_; obtain ⟨ad344, e344, hx344_0⟩ := Kd.at_string (Kd.R_reads' HO343.out).2.2 0 p344 q344; cases e344; have qi344 : (0 < t341.length) = True := eq_true (by omega); (try rw [show ((0 : Int)).toNat = 0 from rfl] at hx344_0); (try rw [Addr.add_zero'] at hx344_0); replace p344 := eq_true p344; replace q344 := eq_true q344) | ((with_reducible refine gate_dst (N := 5) rfl ?_); (try (refine gate_guard (by rfl) ?_; dsimp only)); refine bx_ 5 #[.int .i64 0, .int .i64 0, .slice none 0 0] 43 ?_; intro gb345 hg w7 hbox hb; replace HO343 := aM (Kd.R_below (rr_ HO343.out) hb); have BK345 := aM (hbox); have GW345 := aM (bz_ w hg qz1); have GE345 := GW345; replace HB := bS_ hb; obtain ⟨NB340_345, NB345_340⟩ := nb_ hg (bk_ BK340.out); replace BK340 := bB_ BK340 hb; clear hb hbox hg; have hnb8 := NB345_340.out; have hnc8 := NB340_345.out; obtain ⟨hcz9_0, hcz9_1, hcz9_2, hfz9_0, hfz9_1, hfz9_2⟩ := b6_ BK345.out))
 repeat (go_quiet (first | ((with_reducible refine gate_dst (N := 2) rfl ?_); (try (refine gate_guard (by rfl) ?_; dsimp only)); refine bx_ 2 #[.int .i64 0, .int .i64 0, .slice none 0 0] 43 ?_; intro gb340 hg w4 hbox hb; have BK340 := aM (hbox); have GW340 := aM (bz_ w hg qz1); have GE340 := GW340; replace HB := bS_ hb; clear hb hbox hg) | (go_at_call 126; (with_reducible refine (spec_l1Split.calls k a0 10 t341 _ A2.out).mono ?_); rintro e w5 ⟨v342, rfl, ho0, hb⟩; have HO343 := aM (Kd.R_lower ho0 (below_size qz1)); replace BK340 := bB_ BK340 hb; replace HB := bS_ hb; (try clear hb ho0); obtain ⟨Ao6, co6, eo6⟩ := Kd.R_slice HO343.out; subst eo6; have p344 : 0 ≤ (0 : Int) := (by omega); have q344 : 0 < (t341.length : Int) := dt_; obtain ⟨ad344, e344, hx344_0⟩ := Kd.at_string (Kd.R_reads' HO343.out).2.2 0 p344 q344; cases e344; have qi344 : (0 < t341.length) = True := eq_true (by omega); (try rw [show ((0 : Int)).toNat = 0 from rfl] at hx344_0); (try rw [Addr.add_zero'] at hx344_0); replace p344 := eq_true p344; replace q344 := eq_true q344) | ((with_reducible refine gate_dst (N := 5) rfl ?_); (try (refine gate_guard (by rfl) ?_; dsimp only)); refine bx_ 5 #[.int .i64 0, .int .i64 0, .slice none 0 0] 43 ?_; intro gb345 hg w7 hbox hb; replace HO343 := aM (Kd.R_below (rr_ HO343.out) hb); have BK345 := aM (hbox); have GW345 := aM (bz_ w hg qz1); have GE345 := GW345; replace HB := bS_ hb; obtain ⟨NB340_345, NB345_340⟩ := nb_ hg (bk_ BK340.out); replace BK340 := bB_ BK340 hb; clear hb hbox hg; have hnb8 := NB345_340.out; have hnc8 := NB340_345.out; obtain ⟨hcz9_0, hcz9_1, hcz9_2, hfz9_0, hfz9_1, hfz9_2⟩ := b6_ BK345.out)); try go_wp2_with (first | ((with_reducible refine gate_dst (N := 2) rfl ?_); (try (refine gate_guard (by rfl) ?_; dsimp only)); refine bx_ 2 #[.int .i64 0, .int .i64 0, .slice none 0 0] 43 ?_; intro gb340 hg w4 hbox hb; have BK340 := aM (hbox); have GW340 := aM (bz_ w hg qz1); have GE340 := GW340; replace HB := bS_ hb; clear hb hbox hg) | (go_at_call 126; (with_reducible refine (spec_l1Split.calls k a0 10 t341 _ A2.out).mono ?_); rintro e w5 ⟨v342, rfl, ho0, hb⟩; have HO343 := aM (Kd.R_lower ho0 (below_size qz1)); replace BK340 := bB_ BK340 hb; replace HB := bS_ hb; (try clear hb ho0); obtain ⟨Ao6, co6, eo6⟩ := Kd.R_slice HO343.out; subst eo6; have p344 : 0 ≤ (0 : Int) := (by omega); have q344 : 0 < (t341.length : Int) := dt_; obtain ⟨ad344, e344, hx344_0⟩ := Kd.at_string (Kd.R_reads' HO343.out).2.2 0 p344 q344; cases e344; have qi344 : (0 < t341.length) = True := eq_true (by omega); (try rw [show ((0 : Int)).toNat = 0 from rfl] at hx344_0); (try rw [Addr.add_zero'] at hx344_0); replace p344 := eq_true p344; replace q344 := eq_true q344) | ((with_reducible refine gate_dst (N := 5) rfl ?_); (try (refine gate_guard (by rfl) ?_; dsimp only)); refine bx_ 5 #[.int .i64 0, .int .i64 0, .slice none 0 0] 43 ?_; intro gb345 hg w7 hbox hb; replace HO343 := aM (Kd.R_below (rr_ HO343.out) hb); have BK345 := aM (hbox); have GW345 := aM (bz_ w hg qz1); have GE345 := GW345; replace HB := bS_ hb; obtain ⟨NB340_345, NB345_340⟩ := nb_ hg (bk_ BK340.out); replace BK340 := bB_ BK340 hb; clear hb hbox hg; have hnb8 := NB345_340.out; have hnc8 := NB340_345.out; obtain ⟨hcz9_0, hcz9_1, hcz9_2, hfz9_0, hfz9_1, hfz9_2⟩ := b6_ BK345.out)))
 go_loopg [6] k (fun kq v6 w' => ∃ (x6_1 : Int) (x341000_1 : Int) (x341001_1 : Int) (x346001_1 : Int) (x346002_1 : List Int) (u346002 : Value), v6 = .int .i64 x6_1 ∧ Aside0 (spec_ParseFloor.l0 kq t341 x6_1 ((rdOf ByteArray.empty t341 0).size : Int) x346001_1 x346002_1 = some (r1, r2, r3, r4)) ∧ Aside0 (kq ≤ k) ∧ Aside0 (Kd.R Kd.string 9 w' w.heap.size (fun _ => True) (.slice (some ad344) t341.length co6) t341) ∧ Aside0 (Kd.R (Kd.int .i64) 3 w' w.heap.size (fun _ => True) u346002 x346002_1) ∧ Aside0 (w'.heap[gb340]? = some (.cells #[.int .i64 x341000_1, .int .i64 x341001_1, (.slice none 0 0)] 43 (0, 0))) ∧ Aside0 (w'.heap[gb345]? = some (.cells #[.int .i64 ((rdOf ByteArray.empty t341 0).size : Int), .int .i64 x346001_1, u346002] 43 (0, 0))) ∧ Aside0 (Below w.heap.size w w'))
 case atStart => exact ⟨(0), (0), (0), (0), (([] : List Int)), (.slice none 0 0), qz8, H', ⟨Nat.le_refl _⟩, ⟨by (with_reducible repeat (first | apply Kd.R_alloc | apply Kd.R_drewN | apply Kd.R_drew)); exact Kd.R_mono (Kd.R_far (p := ⟨gb345, 2, none⟩) (Kd.R_far (p := ⟨gb345, 1, none⟩) (Kd.R_far (p := ⟨gb345, 0, none⟩) (Kd.R_types HO343.out BK345.out (by decide)) (fun _ hk => hk.2) (.int .i64 ((rdOf ByteArray.empty t341 0).size : Int))) (fun _ hk => hk.2) (.int .i64 0)) (fun _ hk => hk.2) (.slice none 0 0)) (fun _ hk => trivial)⟩, ⟨by first | exact Kd.R_nil _ _ _ _ _ | exact Kd.N_nil _ _ _ _ _ | exact Kd.V_nil _ _ _ _ _ | exact Kd.Q_nil _ _ _ _ _ | exact Kd.S_nil _ _ _ _ _⟩, ⟨by (with_reducible repeat (first | refine blk_drewN ?_ _ | refine blk_drew ?_ | refine blk_alloc ?_ _)); refine blk_far ?_ NB340_345.out _; (with_reducible repeat (first | refine blk_drewN ?_ _ | refine blk_drew ?_ | refine blk_alloc ?_ _)); refine blk_far ?_ NB340_345.out _; (with_reducible repeat (first | refine blk_drewN ?_ _ | refine blk_drew ?_ | refine blk_alloc ?_ _)); refine blk_far ?_ NB340_345.out _; exact bk_ BK340.out⟩, ⟨by (with_reducible repeat (first | refine blk_drewN ?_ _ | refine blk_drew ?_ | refine blk_alloc ?_ _)); refine blk_put (cs := #[.int .i64 ((rdOf ByteArray.empty t341 0).size : Int), .int .i64 0, .slice none 0 0]) ?_ 2 _ rfl; (with_reducible repeat (first | refine blk_drewN ?_ _ | refine blk_drew ?_ | refine blk_alloc ?_ _)); refine blk_put (cs := #[.int .i64 ((rdOf ByteArray.empty t341 0).size : Int), .int .i64 0, .slice none 0 0]) ?_ 1 _ rfl; (with_reducible repeat (first | refine blk_drewN ?_ _ | refine blk_drew ?_ | refine blk_alloc ?_ _)); refine blk_put (cs := #[.int .i64 0, .int .i64 0, .slice none 0 0]) ?_ 0 _ rfl; exact bk_ BK345.out⟩, ⟨qz1⟩⟩
 case round =>
  clear H'
  try clear c1
  try clear p2
  try clear c3
  try clear c3b0
  try clear c3b1
  try clear p3
  try clear q3
  try clear hx3
  try clear qi3
  try clear c8
  try clear hcz9_0 hcz9_1 hcz9_2 hfz9_0 hfz9_1 hfz9_2
  try clear hx344_0
  try clear p344
  try clear q344
  obtain ⟨x6_1, x341000_1, x341001_1, x346001_1, x346002_1, u346002, rfl, HA, HK1, HO_4, HO_346002, BK340, BK345, HB⟩ := hrel
  cases gk with
  | zero => exact absurd HA.out (by simp [spec_ParseFloor.l0])
  | succ k1 =>
   have H := HA.out
   clear HA
   simp only [spec_ParseFloor.l0] at H
   by_cases c10 : x6_1 < (t341.length : Int)
   {
   rw [if_pos c10] at H
   have c10b0 := decide_eq_true c10
   clear c10
   have HC11 := aM H
   clear H
   go_upto_region 7 with (fail)
   repeat (go_quiet (fail); go_upto_region 7 with (fail))
   go_cut [7, 39] (fun v7 v39 wc => ∃ (kq : Nat) (x7_10 : Bool) (x39_10 : Bool), v7 = .bool x7_10 ∧ v39 = .bool x39_10 ∧ Aside0 (spec_ParseFloor.j1 kq t341 x6_1 x7_10 x39_10 ((rdOf ByteArray.empty t341 0).size : Int) x346001_1 x346002_1 = some (r1, r2, r3, r4)) ∧ Aside0 (kq ≤ k1) ∧ Aside0 (Kd.R Kd.string 9 wc w.heap.size (fun _ => True) (.slice (some ad344) t341.length co6) t341) ∧ Aside0 (Kd.R (Kd.int .i64) 3 wc w.heap.size (fun _ => True) u346002 x346002_1) ∧ Aside0 (wc.heap[gb340]? = some (.cells #[.int .i64 x341000_1, .int .i64 x341001_1, (.slice none 0 0)] 43 (0, 0))) ∧ Aside0 (wc.heap[gb345]? = some (.cells #[.int .i64 ((rdOf ByteArray.empty t341 0).size : Int), .int .i64 x346001_1, u346002] 43 (0, 0))) ∧ Aside0 (Below w.heap.size w wc))
   case first =>
    have H := HC11.out
    clear HC11
    by_cases c12 : x6_1 = (wrap64 ((t341.length : Int) - 1))
    {
    rw [if_pos c12] at H
    have c12b0 := beq_iff_eq.mpr c12
    have c12b1 := bne_eq_false_iff_eq.mpr c12
    clear c12
    (first | rw [c12b0] | (simp only [i64_w, i32_w]; rw [c12b0]) | rw [@decide_eq_true _ _ (of_decide_eq_true c12b0)] | rw [@decide_eq_true _ _ (of_decide_eq_true c12b1)] | skip)
    by_cases c13 : 0 ≤ x6_1
    {
    rw [if_pos c13] at H
    have c13b0 := decide_eq_true c13
    clear c13
    by_cases c14 : (rdOf ByteArray.empty t341 x6_1).toList = ([] : List UInt8)
    {
    rw [if_pos c14] at H
    have c14b0 := beq_iff_eq.mpr c14
    have c14b1 := bne_eq_false_iff_eq.mpr c14
    clear c14
    have H' := aM H
    clear H
    have p346 : 0 ≤ (x6_1 : Int) := dt_
    have q346 : x6_1 < (t341.length : Int) := dt_
    obtain ⟨ad346, e346, hx346_0⟩ := Kd.at_string (Kd.R_reads' HO_4.out).2.2 x6_1 p346 q346
    obtain rfl : ad344 = ad346 := (by injection e346)
    replace p346 := eq_true p346
    replace q346 := eq_true q346
    go_wp2
    repeat (go_quiet (fail); try go_wp2)
    go_meet
    case rel => exact ⟨_, ((x6_1 == (wrap64 ((t341.length : Int) - 1)))), (decide (x6_1 > 0)), qz8, qz8, H', ⟨by have := HK1.out; first | omega | exact Nat.le_refl _⟩, ⟨rm_ HO_4.out⟩, ⟨rm_ HO_346002.out⟩, ⟨bk_ BK340.out⟩, ⟨bk_ BK345.out⟩, ⟨qz1⟩⟩
    }
    {
    rw [if_neg c14] at H
    have c14b0 := beq_eq_false_iff_ne.mpr c14
    have c14b1 := bne_iff_ne.mpr c14
    have H' := aM H
    clear H
    have p346 : 0 ≤ (x6_1 : Int) := dt_
    have q346 : x6_1 < (t341.length : Int) := dt_
    obtain ⟨ad346, e346, hx346_0⟩ := Kd.at_string (Kd.R_reads' HO_4.out).2.2 x6_1 p346 q346
    obtain rfl : ad344 = ad346 := (by injection e346)
    replace p346 := eq_true p346
    replace q346 := eq_true q346
    go_wp2
    repeat (go_quiet (fail); try go_wp2)
    go_meet
    case rel => exact ⟨_, ((x6_1 == (wrap64 ((t341.length : Int) - 1)))), (false), qz8, qz8, H', ⟨by have := HK1.out; first | omega | exact Nat.le_refl _⟩, ⟨rm_ HO_4.out⟩, ⟨rm_ HO_346002.out⟩, ⟨bk_ BK340.out⟩, ⟨bk_ BK345.out⟩, ⟨qz1⟩⟩
    }
    }
    {
    exact an_ c13 H
    }
    }
    {
    rw [if_neg c12] at H
    have c12b0 := beq_eq_false_iff_ne.mpr c12
    have c12b1 := bne_iff_ne.mpr c12
    (first | rw [c12b0] | (simp only [i64_w, i32_w]; rw [c12b0]) | rw [@decide_eq_false _ _ (of_decide_eq_false c12b0)] | rw [@decide_eq_false _ _ (of_decide_eq_false c12b1)] | skip)
    have H' := aM H
    clear H
    go_wp2
    repeat (go_quiet (fail); try go_wp2)
    go_meet
    case rel => exact ⟨_, ((x6_1 == (wrap64 ((t341.length : Int) - 1)))), (false), qz8, qz8, H', ⟨by have := HK1.out; first | omega | exact Nat.le_refl _⟩, ⟨rm_ HO_4.out⟩, ⟨rm_ HO_346002.out⟩, ⟨bk_ BK340.out⟩, ⟨bk_ BK345.out⟩, ⟨qz1⟩⟩
    }
   case rest =>
    clear HC11
    try clear c1
    try clear p2
    try clear c3
    try clear c3b0
    try clear c3b1
    try clear p3
    try clear q3
    try clear hx3
    try clear qi3
    try clear p6
    try clear c8
    try clear c10
    try clear c10b0
    try clear c12
    try clear c12b0
    try clear c12b1
    try clear c13
    try clear c13b0
    try clear c14
    try clear c14b0
    try clear c14b1
    try clear hcz9_0 hcz9_1 hcz9_2 hfz9_0 hfz9_1 hfz9_2
    try clear hx344_0
    try clear hx346_0
    try clear p344
    try clear p346
    try clear q344
    try clear q346
    obtain ⟨kq, x7_10, x39_10, rfl, rfl, HA, HJ10, HO_4, HO_346002, BK340, BK345, HB⟩ := hcut
    cases kq with
    | zero => exact absurd HA.out (by simp [spec_ParseFloor.j1])
    | succ kj10 =>
     have H := HA.out
     clear HA
     simp only [spec_ParseFloor.j1] at H
     by_cases c15 : x39_10 = true
     {
     subst c15
     rw [if_pos rfl] at H
     simp only [Option.some.injEq, Prod.mk.injEq] at H
     obtain ⟨rfl, rfl, rfl, rfl⟩ := H
     have hnb16 := NB345_340.out
     have hnc16 := NB340_345.out
     obtain ⟨hcz17_0, hcz17_1, hcz17_2, hfz17_0, hfz17_1, hfz17_2⟩ := b6_ BK345.out
     obtain ⟨hcz18_0, hcz18_1, hcz18_2, hfz18_0, hfz18_1, hfz18_2⟩ := b6_ BK340.out
     obtain ⟨Ao19, co19, eo19⟩ := Kd.R_slice HO_346002.out
     subst eo19
     go_wp2
     repeat (go_quiet (fail); try go_wp2)
     refine bodyPost_ret (results_ct rfl _ _ gb340 43 #[.int .i64 ((rdOf ByteArray.empty t341 0).size : Int), .int .i64 x346001_1, .slice Ao19 x346002_1.length co19] (0, 0) _ rfl (by (with_reducible repeat (first | refine blk_drewN ?_ _ | refine blk_drew ?_ | refine blk_alloc ?_ _)); refine blk_put (cs := #[.int .i64 ((rdOf ByteArray.empty t341 0).size : Int), .int .i64 x346001_1, .slice none 0 0]) ?_ 2 _ rfl; (with_reducible repeat (first | refine blk_drewN ?_ _ | refine blk_drew ?_ | refine blk_alloc ?_ _)); refine blk_put (cs := #[.int .i64 ((rdOf ByteArray.empty t341 0).size : Int), .int .i64 x341001_1, .slice none 0 0]) ?_ 1 _ rfl; (with_reducible repeat (first | refine blk_drewN ?_ _ | refine blk_drew ?_ | refine blk_alloc ?_ _)); refine blk_put (cs := #[.int .i64 x341000_1, .int .i64 x341001_1, .slice none 0 0]) ?_ 0 _ rfl; exact bk_ BK340.out) Try.underlying43 rfl (by kernel_rfl)) rfl ?_
     exact ⟨_, qzw, by (with_reducible repeat (first | apply Kd.R_alloc | apply Kd.R_drewN | apply Kd.R_drew)); exact Kd.R_mono (Kd.R_far (p := ⟨gb340, 2, none⟩) (Kd.R_far (p := ⟨gb340, 1, none⟩) (Kd.R_far (p := ⟨gb340, 0, none⟩) (Kd.R_types HO_346002.out BK340.out (by decide)) (fun _ hk => hk.2) (.int .i64 ((rdOf ByteArray.empty t341 0).size : Int))) (fun _ hk => hk.2) (.int .i64 x346001_1)) (fun _ hk => hk.2) (.slice Ao19 x346002_1.length co19)) (fun _ hk => trivial), qz1⟩
     }
     {
     replace c15 := Bool.eq_false_iff.mpr c15
     subst c15
     rw [if_neg (show ¬ (false = true) by decide)] at H
     have HC20 := aM H
     clear H
     go_upto_region 8 with (fail)
     repeat (go_quiet (fail); go_upto_region 8 with (fail))
     go_cut [63] (fun v63 wc => ∃ (kq : Nat) (x63_19 : Bool), v63 = .bool x63_19 ∧ Aside0 (spec_ParseFloor.j2 kq t341 x6_1 x63_19 ((rdOf ByteArray.empty t341 0).size : Int) x346001_1 x346002_1 = some (r1, r2, r3, r4)) ∧ Aside0 (kq ≤ kj10) ∧ Aside0 (Kd.R Kd.string 9 wc w.heap.size (fun _ => True) (.slice (some ad344) t341.length co6) t341) ∧ Aside0 (Kd.R (Kd.int .i64) 3 wc w.heap.size (fun _ => True) u346002 x346002_1) ∧ Aside0 (wc.heap[gb340]? = some (.cells #[.int .i64 x341000_1, .int .i64 x341001_1, (.slice none 0 0)] 43 (0, 0))) ∧ Aside0 (wc.heap[gb345]? = some (.cells #[.int .i64 ((rdOf ByteArray.empty t341 0).size : Int), .int .i64 x346001_1, u346002] 43 (0, 0))) ∧ Aside0 (Below w.heap.size w wc))
     case first =>
      have H := HC20.out
      clear HC20
      by_cases c21 : x7_10 = true
      {
      subst c21
      rw [if_pos rfl] at H
      have H' := aM H
      clear H
      go_wp2
      repeat (go_quiet (fail); try go_wp2)
      go_meet
      case rel => exact ⟨_, (true), qz8, H', ⟨by have := HK1.out; have := HJ10.out; first | omega | exact Nat.le_refl _⟩, ⟨rm_ HO_4.out⟩, ⟨rm_ HO_346002.out⟩, ⟨bk_ BK340.out⟩, ⟨bk_ BK345.out⟩, ⟨qz1⟩⟩
      }
      {
      replace c21 := Bool.eq_false_iff.mpr c21
      subst c21
      rw [if_neg (show ¬ (false = true) by decide)] at H
      by_cases c22 : x6_1 = 10
      {
      rw [if_pos c22] at H
      have c22b0 := beq_iff_eq.mpr c22
      have c22b1 := bne_eq_false_iff_eq.mpr c22
      clear c22
      (first | rw [c22b0] | (simp only [i64_w, i32_w]; rw [c22b0]) | rw [@decide_eq_true _ _ (of_decide_eq_true c22b0)] | rw [@decide_eq_true _ _ (of_decide_eq_true c22b1)] | skip)
      have H' := aM H
      clear H
      go_wp2
      repeat (go_quiet (fail); try go_wp2)
      go_meet
      case rel => exact ⟨_, (true), qz8, H', ⟨by have := HK1.out; have := HJ10.out; first | omega | exact Nat.le_refl _⟩, ⟨rm_ HO_4.out⟩, ⟨rm_ HO_346002.out⟩, ⟨bk_ BK340.out⟩, ⟨bk_ BK345.out⟩, ⟨qz1⟩⟩
      }
      {
      rw [if_neg c22] at H
      have c22b0 := beq_eq_false_iff_ne.mpr c22
      have c22b1 := bne_iff_ne.mpr c22
      (first | rw [c22b0] | (simp only [i64_w, i32_w]; rw [c22b0]) | rw [@decide_eq_false _ _ (of_decide_eq_false c22b0)] | rw [@decide_eq_false _ _ (of_decide_eq_false c22b1)] | skip)
      by_cases c23 : 0 ≤ x6_1
      {
      rw [if_pos c23] at H
      have c23b0 := decide_eq_true c23
      clear c23
      by_cases c24 : x6_1 < (t341.length : Int)
      {
      rw [if_pos c24] at H
      have c24b0 := decide_eq_true c24
      clear c24
      replace H := Option.bind_eq_some_iff.mp H
      obtain ⟨t348, A250, H⟩ := H
      replace H : (if t348 = true then (spec_ParseFloor.j2 kj10 t341 x6_1 (((rdOf ByteArray.empty t341 x6_1).size : Int) != ((rdOf ByteArray.empty t341 0).size : Int)) ((rdOf ByteArray.empty t341 0).size : Int) x346001_1 x346002_1) else (spec_ParseFloor.j2 kj10 t341 x6_1 true ((rdOf ByteArray.empty t341 0).size : Int) x346001_1 x346002_1)) = some (r1, r2, r3, r4) := H
      have A25 := aM A250
      clear A250
      by_cases c26 : t348 = true
      {
      subst c26
      rw [if_pos rfl] at H
      have H' := aM H
      clear H
      have p347 : 0 ≤ (x6_1 : Int) := dt_
      have q347 : x6_1 < (t341.length : Int) := dt_
      obtain ⟨ad347, e347, hx347_0⟩ := Kd.at_string (Kd.R_reads' HO_4.out).2.2 x6_1 p347 q347
      obtain rfl : ad344 = ad347 := (by injection e347)
      replace p347 := eq_true p347
      replace q347 := eq_true q347
      go_wp2_with (first | (go_at_call 98; (with_reducible refine (spec_l1In.calls ((rdOf ByteArray.empty t341 x6_1).size : Int) 1 10 true _ A25.out).mono ?_); rintro e w' ⟨rfl, ⟨nd, rfl⟩⟩; (try first | exact ⟨rfl, _, World.drewN_drewN _ _ _⟩ | exact ⟨rfl, _, Eq.trans (World.drewN_drewN _ _ _) (congrArg (World.drewN _) (Nat.add_assoc _ _ _))⟩); have p349 : 0 ≤ (x6_1 : Int) := dt_; have q349 : x6_1 < (t341.length : Int) := dt_; obtain ⟨ad349, e349, hx349_0⟩ := Kd.at_string (Kd.R_reads' HO_4.out).2.2 x6_1 p349 q349; obtain rfl : ad344 = ad349 := (by injection e349); replace p349 := eq_true p349; replace q349 := eq_true q349; have hnb27 := NB345_340.out; have hnc27 := NB340_345.out; obtain ⟨hcz28_0, hcz28_1, hcz28_2, hfz28_0, hfz28_1, hfz28_2⟩ := b6_ BK345.out))
      repeat (go_quiet (first | (go_at_call 98; (with_reducible refine (spec_l1In.calls ((rdOf ByteArray.empty t341 x6_1).size : Int) 1 10 true _ A25.out).mono ?_); rintro e w' ⟨rfl, ⟨nd, rfl⟩⟩; (try first | exact ⟨rfl, _, World.drewN_drewN _ _ _⟩ | exact ⟨rfl, _, Eq.trans (World.drewN_drewN _ _ _) (congrArg (World.drewN _) (Nat.add_assoc _ _ _))⟩); have p349 : 0 ≤ (x6_1 : Int) := dt_; have q349 : x6_1 < (t341.length : Int) := dt_; obtain ⟨ad349, e349, hx349_0⟩ := Kd.at_string (Kd.R_reads' HO_4.out).2.2 x6_1 p349 q349; obtain rfl : ad344 = ad349 := (by injection e349); replace p349 := eq_true p349; replace q349 := eq_true q349; have hnb27 := NB345_340.out; have hnc27 := NB340_345.out; obtain ⟨hcz28_0, hcz28_1, hcz28_2, hfz28_0, hfz28_1, hfz28_2⟩ := b6_ BK345.out)); try go_wp2_with (first | (go_at_call 98; (with_reducible refine (spec_l1In.calls ((rdOf ByteArray.empty t341 x6_1).size : Int) 1 10 true _ A25.out).mono ?_); rintro e w' ⟨rfl, ⟨nd, rfl⟩⟩; (try first | exact ⟨rfl, _, World.drewN_drewN _ _ _⟩ | exact ⟨rfl, _, Eq.trans (World.drewN_drewN _ _ _) (congrArg (World.drewN _) (Nat.add_assoc _ _ _))⟩); have p349 : 0 ≤ (x6_1 : Int) := dt_; have q349 : x6_1 < (t341.length : Int) := dt_; obtain ⟨ad349, e349, hx349_0⟩ := Kd.at_string (Kd.R_reads' HO_4.out).2.2 x6_1 p349 q349; obtain rfl : ad344 = ad349 := (by injection e349); replace p349 := eq_true p349; replace q349 := eq_true q349; have hnb27 := NB345_340.out; have hnc27 := NB340_345.out; obtain ⟨hcz28_0, hcz28_1, hcz28_2, hfz28_0, hfz28_1, hfz28_2⟩ := b6_ BK345.out)))
      go_meet
      case rel => exact ⟨_, ((((rdOf ByteArray.empty t341 x6_1).size : Int) != ((rdOf ByteArray.empty t341 0).size : Int))), qz8, H', ⟨by have := HK1.out; have := HJ10.out; first | omega | exact Nat.le_refl _⟩, ⟨rm_ HO_4.out⟩, ⟨rm_ HO_346002.out⟩, ⟨bk_ BK340.out⟩, ⟨bk_ BK345.out⟩, ⟨qz1⟩⟩
      }
      {
      replace c26 := Bool.eq_false_iff.mpr c26
      subst c26
      rw [if_neg (show ¬ (false = true) by decide)] at H
      have H' := aM H
      clear H
      have p347 : 0 ≤ (x6_1 : Int) := dt_
      have q347 : x6_1 < (t341.length : Int) := dt_
      obtain ⟨ad347, e347, hx347_0⟩ := Kd.at_string (Kd.R_reads' HO_4.out).2.2 x6_1 p347 q347
      obtain rfl : ad344 = ad347 := (by injection e347)
      replace p347 := eq_true p347
      replace q347 := eq_true q347
      go_wp2_with (first | (go_at_call 98; (with_reducible refine (spec_l1In.calls ((rdOf ByteArray.empty t341 x6_1).size : Int) 1 10 false _ A25.out).mono ?_); rintro e w' ⟨rfl, ⟨nd, rfl⟩⟩; (try first | exact ⟨rfl, _, World.drewN_drewN _ _ _⟩ | exact ⟨rfl, _, Eq.trans (World.drewN_drewN _ _ _) (congrArg (World.drewN _) (Nat.add_assoc _ _ _))⟩)))
      repeat (go_quiet (first | (go_at_call 98; (with_reducible refine (spec_l1In.calls ((rdOf ByteArray.empty t341 x6_1).size : Int) 1 10 false _ A25.out).mono ?_); rintro e w' ⟨rfl, ⟨nd, rfl⟩⟩; (try first | exact ⟨rfl, _, World.drewN_drewN _ _ _⟩ | exact ⟨rfl, _, Eq.trans (World.drewN_drewN _ _ _) (congrArg (World.drewN _) (Nat.add_assoc _ _ _))⟩))); try go_wp2_with (first | (go_at_call 98; (with_reducible refine (spec_l1In.calls ((rdOf ByteArray.empty t341 x6_1).size : Int) 1 10 false _ A25.out).mono ?_); rintro e w' ⟨rfl, ⟨nd, rfl⟩⟩; (try first | exact ⟨rfl, _, World.drewN_drewN _ _ _⟩ | exact ⟨rfl, _, Eq.trans (World.drewN_drewN _ _ _) (congrArg (World.drewN _) (Nat.add_assoc _ _ _))⟩))))
      go_meet
      case rel => exact ⟨_, (true), qz8, H', ⟨by have := HK1.out; have := HJ10.out; first | omega | exact Nat.le_refl _⟩, ⟨rm_ HO_4.out⟩, ⟨rm_ HO_346002.out⟩, ⟨bk_ BK340.out⟩, ⟨bk_ BK345.out⟩, ⟨qz1⟩⟩
      }
      }
      {
      exact an_ c24 H
      }
      }
      {
      exact an_ c23 H
      }
      }
      }
     case rest =>
      clear HC20
      try clear c1
      try clear c2
      try clear p2
      try clear c3
      try clear c3b0
      try clear c3b1
      try clear p3
      try clear q3
      try clear hx3
      try clear qi3
      try clear p6
      try clear c8
      try clear c10
      try clear c10b0
      try clear c12
      try clear c12b0
      try clear c12b1
      try clear c13
      try clear c13b0
      try clear c14
      try clear c14b0
      try clear c14b1
      try clear c15
      try clear c16
      try clear c21
      try clear c22
      try clear c22b0
      try clear c22b1
      try clear c23
      try clear c23b0
      try clear c24
      try clear c24b0
      try clear c26
      try clear c27
      try clear hcz17_0 hcz17_1 hcz17_2 hfz17_0 hfz17_1 hfz17_2
      try clear hcz18_0 hcz18_1 hcz18_2 hfz18_0 hfz18_1 hfz18_2
      try clear hcz28_0 hcz28_1 hcz28_2 hfz28_0 hfz28_1 hfz28_2
      try clear hcz9_0 hcz9_1 hcz9_2 hfz9_0 hfz9_1 hfz9_2
      try clear hx344_0
      try clear hx346_0
      try clear hx347_0
      try clear hx349_0
      try clear p344
      try clear p346
      try clear p347
      try clear p349
      try clear q344
      try clear q346
      try clear q347
      try clear q349
      obtain ⟨kq, x63_19, rfl, HA, HJ19, HO_4, HO_346002, BK340, BK345, HB⟩ := hcut
      cases kq with
      | zero => exact absurd HA.out (by simp [spec_ParseFloor.j2])
      | succ kj19 =>
       have H := HA.out
       clear HA
       simp only [spec_ParseFloor.j2] at H
       by_cases c29 : x63_19 = true
       {
       subst c29
       rw [if_pos rfl] at H
       simp only [Option.some.injEq, Prod.mk.injEq] at H
       obtain ⟨rfl, rfl, rfl, rfl⟩ := H
       have hnb30 := NB340_345.out
       have hnc30 := NB345_340.out
       obtain ⟨hcz31_0, hcz31_1, hcz31_2, hfz31_0, hfz31_1, hfz31_2⟩ := b6_ BK340.out
       go_wp2
       repeat (go_quiet (fail); try go_wp2)
       refine bodyPost_ret (results_ct rfl _ _ gb340 43 #[.int .i64 0, .int .i64 0, .slice none 0 0] (0, 0) _ rfl (by (with_reducible repeat (first | refine blk_drewN ?_ _ | refine blk_drew ?_ | refine blk_alloc ?_ _)); refine blk_put (cs := #[.int .i64 0, .int .i64 0, .slice none 0 0]) ?_ 2 _ rfl; (with_reducible repeat (first | refine blk_drewN ?_ _ | refine blk_drew ?_ | refine blk_alloc ?_ _)); refine blk_put (cs := #[.int .i64 0, .int .i64 x341001_1, .slice none 0 0]) ?_ 1 _ rfl; (with_reducible repeat (first | refine blk_drewN ?_ _ | refine blk_drew ?_ | refine blk_alloc ?_ _)); refine blk_put (cs := #[.int .i64 x341000_1, .int .i64 x341001_1, .slice none 0 0]) ?_ 0 _ rfl; exact bk_ BK340.out) Try.underlying43 rfl (by kernel_rfl)) rfl ?_
       exact ⟨_, qzw, by first | exact Kd.R_nil _ _ _ _ _ | exact Kd.N_nil _ _ _ _ _ | exact Kd.V_nil _ _ _ _ _ | exact Kd.Q_nil _ _ _ _ _ | exact Kd.S_nil _ _ _ _ _, qz1⟩
       }
       {
       replace c29 := Bool.eq_false_iff.mpr c29
       subst c29
       rw [if_neg (show ¬ (false = true) by decide)] at H
       have H' := aM H
       clear H
       go_wp2
       repeat (go_quiet (fail); try go_wp2)
       go_loopg [8] kj19 (fun kq v8 w' => ∃ (x8_4 : Int) (x341000_4 : Int) (x341001_4 : Int) (x346002_4 : List Int) (u346002 : Value), v8 = .int .i64 x8_4 ∧ Aside0 (spec_ParseFloor.l1 kq t341 x6_1 x8_4 ((rdOf ByteArray.empty t341 0).size : Int) x346001_1 x346002_4 = some (r1, r2, r3, r4)) ∧ Aside0 (kq ≤ kj19) ∧ Aside0 (Kd.R Kd.string 9 w' w.heap.size (fun _ => True) (.slice (some ad344) t341.length co6) t341) ∧ Aside0 (Kd.R (Kd.int .i64) 3 w' w.heap.size (fun _ => True) u346002 x346002_4) ∧ Aside0 (w'.heap[gb340]? = some (.cells #[.int .i64 x341000_4, .int .i64 x341001_4, (.slice none 0 0)] 43 (0, 0))) ∧ Aside0 (w'.heap[gb345]? = some (.cells #[.int .i64 ((rdOf ByteArray.empty t341 0).size : Int), .int .i64 x346001_1, u346002] 43 (0, 0))) ∧ Aside0 (Below w.heap.size w w'))
       case atStart => exact ⟨(0), (x341000_1), (x341001_1), (x346002_1), (u346002), qz8, H', ⟨Nat.le_refl _⟩, ⟨rr_ HO_4.out⟩, ⟨rr_ HO_346002.out⟩, ⟨bk_ BK340.out⟩, ⟨bk_ BK345.out⟩, ⟨qz1⟩⟩
       case round =>
        clear H'
        try clear c1
        try clear c2
        try clear p2
        try clear c3
        try clear c3b0
        try clear c3b1
        try clear p3
        try clear q3
        try clear hx3
        try clear qi3
        try clear p6
        try clear c8
        try clear c10
        try clear c10b0
        try clear c12
        try clear c12b0
        try clear c12b1
        try clear c13
        try clear c13b0
        try clear c14
        try clear c14b0
        try clear c14b1
        try clear c15
        try clear c16
        try clear c21
        try clear c22
        try clear c22b0
        try clear c22b1
        try clear c23
        try clear c23b0
        try clear c24
        try clear c24b0
        try clear c26
        try clear c27
        try clear c29
        try clear c30
        try clear hcz17_0 hcz17_1 hcz17_2 hfz17_0 hfz17_1 hfz17_2
        try clear hcz18_0 hcz18_1 hcz18_2 hfz18_0 hfz18_1 hfz18_2
        try clear hcz28_0 hcz28_1 hcz28_2 hfz28_0 hfz28_1 hfz28_2
        try clear hcz31_0 hcz31_1 hcz31_2 hfz31_0 hfz31_1 hfz31_2
        try clear hcz9_0 hcz9_1 hcz9_2 hfz9_0 hfz9_1 hfz9_2
        try clear hx344_0
        try clear hx346_0
        try clear hx347_0
        try clear hx349_0
        try clear p344
        try clear p346
        try clear p347
        try clear p349
        try clear q344
        try clear q346
        try clear q347
        try clear q349
        obtain ⟨x8_4, x341000_4, x341001_4, x346002_4, u346002, rfl, HA, HK4, HO_4, HO_346002, BK340, BK345, HB⟩ := hrel
        cases gk with
        | zero => exact absurd HA.out (by simp [spec_ParseFloor.l1])
        | succ k4 =>
         have H := HA.out
         clear HA
         simp only [spec_ParseFloor.l1] at H
         by_cases c32 : 0 ≤ x6_1
         {
         rw [if_pos c32] at H
         have c32b0 := decide_eq_true c32
         clear c32
         by_cases c33 : x6_1 < (t341.length : Int)
         {
         rw [if_pos c33] at H
         have c33b0 := decide_eq_true c33
         clear c33
         by_cases c34 : x8_4 < ((rdOf ByteArray.empty t341 x6_1).size : Int)
         {
         rw [if_pos c34] at H
         have c34b0 := decide_eq_true c34
         clear c34
         by_cases c35 : 0 ≤ x8_4
         {
         rw [if_pos c35] at H
         have c35b0 := decide_eq_true c35
         clear c35
         replace H := Option.bind_eq_some_iff.mp H
         obtain ⟨t352, A370, H⟩ := H
         replace H : (if t352 < 0 then (some (0, 0, ([] : List Int), x6_1)) else (if x346002_4.length < 17592186044416 then (spec_ParseFloor.l1 k4 t341 x6_1 (wrap64 (x8_4 + 1)) ((rdOf ByteArray.empty t341 0).size : Int) x346001_1 (x346002_4 ++ [t352])) else (none))) = some (r1, r2, r3, r4) := H
         have A37 := aM A370
         clear A370
         by_cases c38 : t352 < 0
         {
         rw [if_pos c38] at H
         have c38b0 := decide_eq_true c38
         clear c38
         simp only [Option.some.injEq, Prod.mk.injEq] at H
         obtain ⟨rfl, rfl, rfl, rfl⟩ := H
         have p350 : 0 ≤ (x6_1 : Int) := dt_
         have q350 : x6_1 < (t341.length : Int) := dt_
         obtain ⟨ad350, e350, hx350_0⟩ := Kd.at_string (Kd.R_reads' HO_4.out).2.2 x6_1 p350 q350
         obtain rfl : ad344 = ad350 := (by injection e350)
         replace p350 := eq_true p350
         replace q350 := eq_true q350
         have p351 : 0 ≤ (x6_1 : Int) := dt_
         have q351 : x6_1 < (t341.length : Int) := dt_
         obtain ⟨ad351, e351, hx351_0⟩ := Kd.at_string (Kd.R_reads' HO_4.out).2.2 x6_1 p351 q351
         obtain rfl : ad344 = ad351 := (by injection e351)
         replace p351 := eq_true p351
         replace q351 := eq_true q351
         have p36 : 0 ≤ (x8_4 : Int) := dt_
         have q36 : x8_4 < ((rdOf ByteArray.empty t341 x6_1).size : Int) := dt_
         have hx36 := bt_at (rdOf ByteArray.empty t341 x6_1) x8_4
         replace p36 := eq_true p36
         replace q36 := eq_true q36
         go_wp2_with (first | (go_at_call 127; (with_reducible refine (spec_l1Mark.calls k4 (bt (rdOf ByteArray.empty t341 x6_1) x8_4) t352 _ A37.out).mono ?_); rintro e w' ⟨rfl, ⟨nd, rfl⟩⟩; (try first | exact ⟨rfl, _, World.drewN_drewN _ _ _⟩ | exact ⟨rfl, _, Eq.trans (World.drewN_drewN _ _ _) (congrArg (World.drewN _) (Nat.add_assoc _ _ _))⟩); have hnb39 := NB340_345.out; have hnc39 := NB345_340.out; obtain ⟨hcz40_0, hcz40_1, hcz40_2, hfz40_0, hfz40_1, hfz40_2⟩ := b6_ BK340.out))
         repeat (go_quiet (first | (go_at_call 127; (with_reducible refine (spec_l1Mark.calls k4 (bt (rdOf ByteArray.empty t341 x6_1) x8_4) t352 _ A37.out).mono ?_); rintro e w' ⟨rfl, ⟨nd, rfl⟩⟩; (try first | exact ⟨rfl, _, World.drewN_drewN _ _ _⟩ | exact ⟨rfl, _, Eq.trans (World.drewN_drewN _ _ _) (congrArg (World.drewN _) (Nat.add_assoc _ _ _))⟩); have hnb39 := NB340_345.out; have hnc39 := NB345_340.out; obtain ⟨hcz40_0, hcz40_1, hcz40_2, hfz40_0, hfz40_1, hfz40_2⟩ := b6_ BK340.out)); try go_wp2_with (first | (go_at_call 127; (with_reducible refine (spec_l1Mark.calls k4 (bt (rdOf ByteArray.empty t341 x6_1) x8_4) t352 _ A37.out).mono ?_); rintro e w' ⟨rfl, ⟨nd, rfl⟩⟩; (try first | exact ⟨rfl, _, World.drewN_drewN _ _ _⟩ | exact ⟨rfl, _, Eq.trans (World.drewN_drewN _ _ _) (congrArg (World.drewN _) (Nat.add_assoc _ _ _))⟩); have hnb39 := NB340_345.out; have hnc39 := NB345_340.out; obtain ⟨hcz40_0, hcz40_1, hcz40_2, hfz40_0, hfz40_1, hfz40_2⟩ := b6_ BK340.out)))
         refine bodyPost_ret (results_ct rfl _ _ gb340 43 #[.int .i64 0, .int .i64 0, .slice none 0 0] (0, 0) _ rfl (by (with_reducible repeat (first | refine blk_drewN ?_ _ | refine blk_drew ?_ | refine blk_alloc ?_ _)); refine blk_put (cs := #[.int .i64 0, .int .i64 0, .slice none 0 0]) ?_ 2 _ rfl; (with_reducible repeat (first | refine blk_drewN ?_ _ | refine blk_drew ?_ | refine blk_alloc ?_ _)); refine blk_put (cs := #[.int .i64 0, .int .i64 x341001_4, .slice none 0 0]) ?_ 1 _ rfl; (with_reducible repeat (first | refine blk_drewN ?_ _ | refine blk_drew ?_ | refine blk_alloc ?_ _)); refine blk_put (cs := #[.int .i64 x341000_4, .int .i64 x341001_4, .slice none 0 0]) ?_ 0 _ rfl; exact bk_ BK340.out) Try.underlying43 rfl (by kernel_rfl)) rfl ?_
         exact ⟨_, qzw, by first | exact Kd.R_nil _ _ _ _ _ | exact Kd.N_nil _ _ _ _ _ | exact Kd.V_nil _ _ _ _ _ | exact Kd.Q_nil _ _ _ _ _ | exact Kd.S_nil _ _ _ _ _, qz1⟩
         }
         {
         rw [if_neg c38] at H
         have c38b0 := decide_eq_false c38
         clear c38
         by_cases c41 : x346002_4.length < 17592186044416
         {
         rw [if_pos c41] at H
         have LMc41 := aM c41
         clear c41
         obtain ⟨y353, hy353⟩ : ∃ y_ : List Int, y_ = (x346002_4 ++ [t352]) := ⟨_, rfl⟩
         replace H : (spec_ParseFloor.l1 k4 t341 x6_1 (wrap64 (x8_4 + 1)) ((rdOf ByteArray.empty t341 0).size : Int) x346001_1 y353) = some (r1, r2, r3, r4) := by first | (rw [hy353]; with_reducible exact H) | (have H2_ := (Option.bind_some _ _).symm.trans H; rw [hy353]; with_reducible exact H2_) | (have H2_ := (Option.bind_some _ _).symm.trans H; with_reducible exact H2_) | with_reducible exact H | (rw [hy353]; exact H) | exact H
         have Ny353 := aM hy353
         clear hy353
         have H' := aM H
         clear H
         have p350 : 0 ≤ (x6_1 : Int) := dt_
         have q350 : x6_1 < (t341.length : Int) := dt_
         obtain ⟨ad350, e350, hx350_0⟩ := Kd.at_string (Kd.R_reads' HO_4.out).2.2 x6_1 p350 q350
         obtain rfl : ad344 = ad350 := (by injection e350)
         replace p350 := eq_true p350
         replace q350 := eq_true q350
         have p351 : 0 ≤ (x6_1 : Int) := dt_
         have q351 : x6_1 < (t341.length : Int) := dt_
         obtain ⟨ad351, e351, hx351_0⟩ := Kd.at_string (Kd.R_reads' HO_4.out).2.2 x6_1 p351 q351
         obtain rfl : ad344 = ad351 := (by injection e351)
         replace p351 := eq_true p351
         replace q351 := eq_true q351
         have p36 : 0 ≤ (x8_4 : Int) := dt_
         have q36 : x8_4 < ((rdOf ByteArray.empty t341 x6_1).size : Int) := dt_
         have hx36 := bt_at (rdOf ByteArray.empty t341 x6_1) x8_4
         replace p36 := eq_true p36
         replace q36 := eq_true q36
         go_wp2_with (first | (go_at_call 127; (with_reducible refine (spec_l1Mark.calls k4 (bt (rdOf ByteArray.empty t341 x6_1) x8_4) t352 _ A37.out).mono ?_); rintro e w' ⟨rfl, ⟨nd, rfl⟩⟩; (try first | exact ⟨rfl, _, World.drewN_drewN _ _ _⟩ | exact ⟨rfl, _, Eq.trans (World.drewN_drewN _ _ _) (congrArg (World.drewN _) (Nat.add_assoc _ _ _))⟩); have hnb42 := NB345_340.out; have hnc42 := NB340_345.out; obtain ⟨hcz43_0, hcz43_1, hcz43_2, hfz43_0, hfz43_1, hfz43_2⟩ := b6_ BK345.out) | ((with_reducible refine gate_builtin (b := .append) (xs := #[.tmp 87, .tmp 89]) rfl ?_); (try (refine gate_guard (by rfl) ?_; dsimp only)); at_builtin; refine Kd.R_append (Kd.int .i64) (w0 := w) w.heap.size rfl (.tmp 87) (.tmp 89) 24 3 (.int .i64 0) 8 rfl Try.underlying24 info3 rfl (by decide) (by omega) u346002 x346002_4 t352 [.int .i64 t352] (fun _ => True) (fun _ => False) rfl rfl ?aP (fun _ hk => hk.elim) ?aF ?aO ?aB ?aS ?aL ?_; (case aP => exact rfl); (case aB => exact qz1); (case aF => exact qz21); (case aO => exact (rr_ HO_346002.out)); (case aS => exact qz32); (case aL => have := LMc41.out; omega); intro v354 w44 ho hb hg hat; rw [← Ny353.out] at ho; replace HO_4 := aM (Kd.R_over' (rr_ HO_4.out) (Kd.R_typed (rr_ HO_346002.out)) (by decide) hg); replace BK340 := aM (blk_grown (bk_ BK340.out) hg (Kd.R_ne HO_346002.out BK340.out (by decide))); replace BK345 := aM (blk_grown (bk_ BK345.out) hg (Kd.R_ne HO_346002.out BK345.out (by decide))); replace HB := aM (hb); have HO355 := aM (ho); clear HO_346002; clear ho hb hg hat; obtain ⟨Ao45, co45, eo45⟩ := Kd.R_slice HO355.out; subst eo45; obtain ⟨hcz46_0, hcz46_1, hcz46_2, hfz46_0, hfz46_1, hfz46_2⟩ := b6_ BK345.out))
         repeat (go_quiet (first | (go_at_call 127; (with_reducible refine (spec_l1Mark.calls k4 (bt (rdOf ByteArray.empty t341 x6_1) x8_4) t352 _ A37.out).mono ?_); rintro e w' ⟨rfl, ⟨nd, rfl⟩⟩; (try first | exact ⟨rfl, _, World.drewN_drewN _ _ _⟩ | exact ⟨rfl, _, Eq.trans (World.drewN_drewN _ _ _) (congrArg (World.drewN _) (Nat.add_assoc _ _ _))⟩); have hnb42 := NB345_340.out; have hnc42 := NB340_345.out; obtain ⟨hcz43_0, hcz43_1, hcz43_2, hfz43_0, hfz43_1, hfz43_2⟩ := b6_ BK345.out) | ((with_reducible refine gate_builtin (b := .append) (xs := #[.tmp 87, .tmp 89]) rfl ?_); (try (refine gate_guard (by rfl) ?_; dsimp only)); at_builtin; refine Kd.R_append (Kd.int .i64) (w0 := w) w.heap.size rfl (.tmp 87) (.tmp 89) 24 3 (.int .i64 0) 8 rfl Try.underlying24 info3 rfl (by decide) (by omega) u346002 x346002_4 t352 [.int .i64 t352] (fun _ => True) (fun _ => False) rfl rfl ?aP (fun _ hk => hk.elim) ?aF ?aO ?aB ?aS ?aL ?_; (case aP => exact rfl); (case aB => exact qz1); (case aF => exact qz21); (case aO => exact (rr_ HO_346002.out)); (case aS => exact qz32); (case aL => have := LMc41.out; omega); intro v354 w44 ho hb hg hat; rw [← Ny353.out] at ho; replace HO_4 := aM (Kd.R_over' (rr_ HO_4.out) (Kd.R_typed (rr_ HO_346002.out)) (by decide) hg); replace BK340 := aM (blk_grown (bk_ BK340.out) hg (Kd.R_ne HO_346002.out BK340.out (by decide))); replace BK345 := aM (blk_grown (bk_ BK345.out) hg (Kd.R_ne HO_346002.out BK345.out (by decide))); replace HB := aM (hb); have HO355 := aM (ho); clear HO_346002; clear ho hb hg hat; obtain ⟨Ao45, co45, eo45⟩ := Kd.R_slice HO355.out; subst eo45; obtain ⟨hcz46_0, hcz46_1, hcz46_2, hfz46_0, hfz46_1, hfz46_2⟩ := b6_ BK345.out)); try go_wp2_with (first | (go_at_call 127; (with_reducible refine (spec_l1Mark.calls k4 (bt (rdOf ByteArray.empty t341 x6_1) x8_4) t352 _ A37.out).mono ?_); rintro e w' ⟨rfl, ⟨nd, rfl⟩⟩; (try first | exact ⟨rfl, _, World.drewN_drewN _ _ _⟩ | exact ⟨rfl, _, Eq.trans (World.drewN_drewN _ _ _) (congrArg (World.drewN _) (Nat.add_assoc _ _ _))⟩); have hnb42 := NB345_340.out; have hnc42 := NB340_345.out; obtain ⟨hcz43_0, hcz43_1, hcz43_2, hfz43_0, hfz43_1, hfz43_2⟩ := b6_ BK345.out) | ((with_reducible refine gate_builtin (b := .append) (xs := #[.tmp 87, .tmp 89]) rfl ?_); (try (refine gate_guard (by rfl) ?_; dsimp only)); at_builtin; refine Kd.R_append (Kd.int .i64) (w0 := w) w.heap.size rfl (.tmp 87) (.tmp 89) 24 3 (.int .i64 0) 8 rfl Try.underlying24 info3 rfl (by decide) (by omega) u346002 x346002_4 t352 [.int .i64 t352] (fun _ => True) (fun _ => False) rfl rfl ?aP (fun _ hk => hk.elim) ?aF ?aO ?aB ?aS ?aL ?_; (case aP => exact rfl); (case aB => exact qz1); (case aF => exact qz21); (case aO => exact (rr_ HO_346002.out)); (case aS => exact qz32); (case aL => have := LMc41.out; omega); intro v354 w44 ho hb hg hat; rw [← Ny353.out] at ho; replace HO_4 := aM (Kd.R_over' (rr_ HO_4.out) (Kd.R_typed (rr_ HO_346002.out)) (by decide) hg); replace BK340 := aM (blk_grown (bk_ BK340.out) hg (Kd.R_ne HO_346002.out BK340.out (by decide))); replace BK345 := aM (blk_grown (bk_ BK345.out) hg (Kd.R_ne HO_346002.out BK345.out (by decide))); replace HB := aM (hb); have HO355 := aM (ho); clear HO_346002; clear ho hb hg hat; obtain ⟨Ao45, co45, eo45⟩ := Kd.R_slice HO355.out; subst eo45; obtain ⟨hcz46_0, hcz46_1, hcz46_2, hfz46_0, hfz46_1, hfz46_2⟩ := b6_ BK345.out)))
         go_roundg k4
         case measure => have := HK1.out; have := HJ10.out; have := HJ19.out; have := HK4.out; omega
         case rel => exact ⟨(wrap64 (x8_4 + 1)), (x341000_4), (x341001_4), (y353), (.slice Ao45 y353.length co45), qz8, H', ⟨by have := HK1.out; have := HJ10.out; have := HJ19.out; have := HK4.out; omega⟩, ⟨by (with_reducible repeat (first | apply Kd.R_alloc | apply Kd.R_drewN | apply Kd.R_drew)); exact Kd.R_mono (Kd.R_far (p := ⟨gb345, 2, none⟩) (Kd.R_types HO_4.out BK345.out (by decide)) (fun _ hk => hk.2) (.slice Ao45 y353.length co45)) (fun _ hk => trivial)⟩, ⟨by (with_reducible repeat (first | apply Kd.R_alloc | apply Kd.R_drewN | apply Kd.R_drew)); exact Kd.R_mono (Kd.R_far (p := ⟨gb345, 2, none⟩) (Kd.R_types HO355.out BK345.out (by decide)) (fun _ hk => hk.2) (.slice Ao45 y353.length co45)) (fun _ hk => trivial)⟩, ⟨by (with_reducible repeat (first | refine blk_drewN ?_ _ | refine blk_drew ?_ | refine blk_alloc ?_ _)); refine blk_far ?_ NB340_345.out _; exact bk_ BK340.out⟩, ⟨by (with_reducible repeat (first | refine blk_drewN ?_ _ | refine blk_drew ?_ | refine blk_alloc ?_ _)); refine blk_put (cs := #[.int .i64 ((rdOf ByteArray.empty t341 0).size : Int), .int .i64 x346001_1, u346002]) ?_ 2 _ rfl; exact bk_ BK345.out⟩, ⟨qz1⟩⟩
         }
         {
         exact an_ c41 H
         }
         }
         }
         {
         exact an_ c35 H
         }
         }
         {
         rw [if_neg c34] at H
         have c34b0 := decide_eq_false c34
         clear c34
         have H' := aM H
         clear H
         have p350 : 0 ≤ (x6_1 : Int) := dt_
         have q350 : x6_1 < (t341.length : Int) := dt_
         obtain ⟨ad350, e350, hx350_0⟩ := Kd.at_string (Kd.R_reads' HO_4.out).2.2 x6_1 p350 q350
         obtain rfl : ad344 = ad350 := (by injection e350)
         replace p350 := eq_true p350
         replace q350 := eq_true q350
         have hnb47 := NB345_340.out
         have hnc47 := NB340_345.out
         obtain ⟨hcz48_0, hcz48_1, hcz48_2, hfz48_0, hfz48_1, hfz48_2⟩ := b6_ BK345.out
         go_wp2
         repeat (go_quiet (fail); try go_wp2)
         go_roundg k4
         case measure => have := HK1.out; have := HJ10.out; have := HJ19.out; have := HK4.out; omega
         case rel => exact ⟨(wrap64 (x6_1 + 1)), (x341000_4), (x341001_4), (wrap64 (x346001_1 + 1)), (x346002_4), (u346002), qz8, H', ⟨by have := HK1.out; have := HJ10.out; have := HJ19.out; have := HK4.out; omega⟩, ⟨by (with_reducible repeat (first | apply Kd.R_alloc | apply Kd.R_drewN | apply Kd.R_drew)); exact Kd.R_mono (Kd.R_far (p := ⟨gb345, 1, none⟩) (Kd.R_types HO_4.out BK345.out (by decide)) (fun _ hk => hk.2) (.int .i64 (wrap64 (x346001_1 + 1)))) (fun _ hk => trivial)⟩, ⟨by (with_reducible repeat (first | apply Kd.R_alloc | apply Kd.R_drewN | apply Kd.R_drew)); exact Kd.R_mono (Kd.R_far (p := ⟨gb345, 1, none⟩) (Kd.R_types HO_346002.out BK345.out (by decide)) (fun _ hk => hk.2) (.int .i64 (wrap64 (x346001_1 + 1)))) (fun _ hk => trivial)⟩, ⟨by (with_reducible repeat (first | refine blk_drewN ?_ _ | refine blk_drew ?_ | refine blk_alloc ?_ _)); refine blk_far ?_ NB340_345.out _; exact bk_ BK340.out⟩, ⟨by (with_reducible repeat (first | refine blk_drewN ?_ _ | refine blk_drew ?_ | refine blk_alloc ?_ _)); refine blk_put (cs := #[.int .i64 ((rdOf ByteArray.empty t341 0).size : Int), .int .i64 x346001_1, u346002]) ?_ 1 _ rfl; exact bk_ BK345.out⟩, ⟨qz1⟩⟩
         }
         }
         {
         exact an_ c33 H
         }
         }
         {
         exact an_ c32 H
         }
       }
     }
   }
   {
   rw [if_neg c10] at H
   have c10b0 := decide_eq_false c10
   clear c10
   simp only [Option.some.injEq, Prod.mk.injEq] at H
   obtain ⟨rfl, rfl, rfl, rfl⟩ := H
   have hnb49 := NB345_340.out
   have hnc49 := NB340_345.out
   obtain ⟨hcz50_0, hcz50_1, hcz50_2, hfz50_0, hfz50_1, hfz50_2⟩ := b6_ BK345.out
   obtain ⟨hcz51_0, hcz51_1, hcz51_2, hfz51_0, hfz51_1, hfz51_2⟩ := b6_ BK340.out
   obtain ⟨Ao52, co52, eo52⟩ := Kd.R_slice HO_346002.out
   subst eo52
   go_wp2
   repeat (go_quiet (fail); try go_wp2)
   refine bodyPost_ret (results_ct rfl _ _ gb340 43 #[.int .i64 ((rdOf ByteArray.empty t341 0).size : Int), .int .i64 x346001_1, .slice Ao52 x346002_1.length co52] (0, 0) _ rfl (by (with_reducible repeat (first | refine blk_drewN ?_ _ | refine blk_drew ?_ | refine blk_alloc ?_ _)); refine blk_put (cs := #[.int .i64 ((rdOf ByteArray.empty t341 0).size : Int), .int .i64 x346001_1, .slice none 0 0]) ?_ 2 _ rfl; (with_reducible repeat (first | refine blk_drewN ?_ _ | refine blk_drew ?_ | refine blk_alloc ?_ _)); refine blk_put (cs := #[.int .i64 ((rdOf ByteArray.empty t341 0).size : Int), .int .i64 x341001_1, .slice none 0 0]) ?_ 1 _ rfl; (with_reducible repeat (first | refine blk_drewN ?_ _ | refine blk_drew ?_ | refine blk_alloc ?_ _)); refine blk_put (cs := #[.int .i64 x341000_1, .int .i64 x341001_1, .slice none 0 0]) ?_ 0 _ rfl; exact bk_ BK340.out) Try.underlying43 rfl (by kernel_rfl)) rfl ?_
   exact ⟨_, qzw, by (with_reducible repeat (first | apply Kd.R_alloc | apply Kd.R_drewN | apply Kd.R_drew)); exact Kd.R_mono (Kd.R_far (p := ⟨gb340, 2, none⟩) (Kd.R_far (p := ⟨gb340, 1, none⟩) (Kd.R_far (p := ⟨gb340, 0, none⟩) (Kd.R_types HO_346002.out BK340.out (by decide)) (fun _ hk => hk.2) (.int .i64 ((rdOf ByteArray.empty t341 0).size : Int))) (fun _ hk => hk.2) (.int .i64 x346001_1)) (fun _ hk => hk.2) (.slice Ao52 x346002_1.length co52)) (fun _ hk => trivial), qz1⟩
   }
 }
 {
 exact an_ c3 H

 }
/-! ### spec_l1Str: function 107 -/
def spec_l1Str.f (s0_0 : List Int) (s0_1 : Int) (s0_2 : Int) (l1 : List ByteArray) : Option (ByteArray × Int × Int) := (spec_l1Below.f s0_0 s0_1 s0_2 (l1.length : Int)).bind fun bt356 => (if 0 ≤ bt356.1 then (if bt356.1 < (l1.length : Int) then (some (rdOf ByteArray.empty l1 bt356.1, bt356.2.1, bt356.2.2)) else (none)) else (none))
set_option maxHeartbeats 8000000 in
set_option maxRecDepth 100000 in
theorem spec_l1Str.calls (g : Nat) (s0_0 : List Int) (s0_1 : Int) (s0_2 : Int) (A1 : Option Addr) (c1 : Nat) (l1 : List ByteArray) (r1 : ByteArray) (r2 : Int) (r3 : Int) (w0 w : World) (hI : IsS113 w0 w g s0_0 s0_1 s0_2) (hB : Below w0.heap.size w0 w) (hr1 : Kd.C Kd.string w A1 l1.length l1) (hc1 : l1.length ≤ c1) (hf1 : ∀ ad, A1 = some ad → 0 < l1.length → ad.block ≠ g) (h : spec_l1Str.f s0_0 s0_1 s0_2 l1 = some (r1, r2, r3)) :
  Calls Try.prog 107 #[.pointer (some ⟨g, 0, none⟩), .slice A1 l1.length c1] w fun e w' => e = .returned (.string r1) ∧ IsS113 w0 w' g s0_0 r2 r3 ∧ Below w0.heap.size w0 w' ∧ KeepBut w w' g none := by
 have HR1 := aM hr1
 have HC1 := aM hc1
 clear hr1 hc1
 have HI0 := aM hI
 have HK := aM (KeepBut.refl w g none)
 have HL := aM hB.size
 clear hI
 have HW0 := aM hB.size
 have HB := aM hB
 clear hB
 have H : ((spec_l1Below.f s0_0 s0_1 s0_2 (l1.length : Int)).bind fun bt356 => (if 0 ≤ bt356.1 then (if bt356.1 < (l1.length : Int) then (some (rdOf ByteArray.empty l1 bt356.1, bt356.2.1, bt356.2.2)) else (none)) else (none))) = some (r1, r2, r3) := h
 clear h
 replace H := Option.bind_eq_some_iff.mp H
 obtain ⟨⟨t356, t357, t358⟩, A30, H⟩ := H
 replace H : (if 0 ≤ t356 then (if t356 < (l1.length : Int) then (some (rdOf ByteArray.empty l1 t356, t357, t358)) else (none)) else (none)) = some (r1, r2, r3) := H
 have A3 := aM A30
 clear A30
 by_cases c4 : 0 ≤ t356
 {
 rw [if_pos c4] at H
 have c4b0 := decide_eq_true c4
 clear c4
 by_cases c5 : t356 < (l1.length : Int)
 {
 rw [if_pos c5] at H
 have c5b0 := decide_eq_true c5
 clear c5
 simp only [Option.some.injEq, Prod.mk.injEq] at H
 obtain ⟨rfl, rfl, rfl⟩ := H
 go_enter Try.func107, Try.ntmps107
 go_wp2_with (first | ((with_reducible refine gate_callee (f := 73) rfl ?_); refine goesL_ (some 9) rfl rfl Try.func73 (by kernel_rfl) rfl #[.pointer (some ⟨g, 0, none⟩), .int .i64 (l1.length : Int)] rfl qz4 ?_; (with_reducible refine (spec_l1Below.calls g s0_0 s0_1 s0_2 (l1.length : Int) t356 t357 t358 w0 _ ?side1 ?side2 A3.out).mono ?_); (case side1 => exact qz3); (case side2 => exact qz1); rintro e w6 ⟨rfl, hi, hb, hk⟩; refine ⟨_, rfl, ?_⟩; replace HK := aM (KeepBut.trans qz2 hk (.inl rfl)); replace HB := aM (hb); replace HI0 := aM (hi); (try clear hb hk hi); have p359 : 0 ≤ (t356 : Int) := dt_; have q359 : t356 < (l1.length : Int) := dt_; obtain ⟨ad359, e359, hx359_0⟩ := Kd.at_string HR1.out t356 p359 q359; cases e359; replace hx359_0 := keep_cell HK.out hx359_0 (by first | (rw [add_block]; exact hf1 _ rfl (by omega)) | exact hf1 _ rfl (by omega) | exact hf1 ad359 rfl (by omega)); replace p359 := eq_true p359; replace q359 := eq_true q359))
 go_ret
 exact ⟨qzw, qz3, qz1, qz2⟩
 }
 {
 exact an_ c5 H
 }
 }
 {
 exact an_ c4 H

 }
end Go.Proofs.Ytankmdbbgepmbaa.PFnChosen
