-- Made by a program of this session out of the translation. Lean checks it.
import Derived.Test.YtankmdbbgepmbaaPFnLivelyx18
namespace Go.Proofs.Ytankmdbbgepmbaa.PFnLively
open Go.RowKit Go.Proofs.YtankmdbbgepmbaaW.PrintWords Go.Proofs.YtankmdbbgepmbaaW.PrintLast Go.Proofs.YtankmdbbgepmbaaW.PrintMore
attribute [local go_sem] max2_int min2_int max_two min_two max_three min_three max_four min_four   -- for this text's walks alone
set_option linter.unusedVariables false
set_option linter.unusedSimpArgs false

/-! ### spec_l3Sound: function 89 -/
mutual
def spec_l3Sound.l0 : Nat → Int → List Int → Int → Int → Int → Int → List Int → Option (Int × Int × List Int × Int × Int)
 | 0, _, _, _, _, _, _, _ => none
 | k + 1, x4, x1000, x1001, x1002, x426000, x426001, x426002 => if x4 < (wrap64 (x426000 * x426001)) then ((spec_l1Int.f x1000 x1001 x1002 (([1, 1, 1, 2, 3, 4] : List Int))).bind fun bt436 => (if x426002.length < 17592186044416 then (spec_l3Sound.l0 k (wrap64 (x4 + 1)) x1000 bt436.2.1 bt436.2.2 x426000 x426001 (x426002 ++ [bt436.1])) else (none))) else (if x426000 > 2 then (if x426001 > 2 then ((spec_l1Once.f x1000 x1001 x1002 2).bind fun bt442 => (spec_l3Sound.j1 k bt442.1 x1000 bt442.2.1 bt442.2.2 x426000 x426001 x426002)) else (spec_l3Sound.j1 k false x1000 x1001 x1002 x426000 x426001 x426002)) else (spec_l3Sound.j1 k false x1000 x1001 x1002 x426000 x426001 x426002))
def spec_l3Sound.j1 : Nat → Bool → List Int → Int → Int → Int → Int → List Int → Option (Int × Int × List Int × Int × Int)
 | 0, _, _, _, _, _, _, _ => none
 | k + 1, x45, x1000, x1001, x1002, x426000, x426001, x426002 => if x45 = true then (if 0 ≤ (wrap64 (x426000 + 1)) then (if (wrap64 (x426000 + 1)) < (x426002.length : Int) then ((some (x426002.set ((wrap64 (x426000 + 1)) : Int).toNat 0 : List Int)).bind fun y445 => ((spec_Sound.f k x426000 x426001 y445).bind fun t446 => (if t446 = true then (some (x426000, x426001, y445, x1001, x1002)) else (some (x426000, x426001, (y445.set ((wrap64 (x426000 + 1)) : Int).toNat 1), x1001, x1002))))) else (none)) else (none)) else (some (x426000, x426001, x426002, x1001, x1002))
end
def spec_l3Sound.f (k : Nat) (s0_0 : List Int) (s0_1 : Int) (s0_2 : Int) : Option (Int × Int × List Int × Int × Int) := (spec_l1Floor.f k s0_0 s0_1 s0_2).bind fun bt418 => ((spec_Sound.f k bt418.1 bt418.2.1 bt418.2.2.1).bind fun t426 => (if t426 = true then (some (bt418.1, bt418.2.1, bt418.2.2.1, bt418.2.2.2.1, bt418.2.2.2.2)) else ((spec_l1Below.f s0_0 bt418.2.2.2.1 bt418.2.2.2.2 4).bind fun bt427 => ((spec_l1Below.f s0_0 bt427.2.1 bt427.2.2 3).bind fun bt430 => (spec_l3Sound.l0 k 0 s0_0 bt430.2.1 bt430.2.2 (wrap64 (2 + bt427.1)) (wrap64 (2 + bt430.1)) ([] : List Int))))))
theorem spec_l3Sound.mono_l : ∀ k, (∀ y0 y1 y2 y3 y4 y5 y6, LeO (spec_l3Sound.l0 k y0 y1 y2 y3 y4 y5 y6) (spec_l3Sound.l0 (k + 1) y0 y1 y2 y3 y4 y5 y6)) ∧ (∀ y0 y1 y2 y3 y4 y5 y6, LeO (spec_l3Sound.j1 k y0 y1 y2 y3 y4 y5 y6) (spec_l3Sound.j1 (k + 1) y0 y1 y2 y3 y4 y5 y6))
 | 0 => ⟨fun _ _ _ _ _ _ _ r h => by simp [spec_l3Sound.l0] at h, fun _ _ _ _ _ _ _ r h => by simp [spec_l3Sound.j1] at h⟩
 | k + 1 => by
  obtain ⟨ih0, ih1⟩ := spec_l3Sound.mono_l k
  refine ⟨?_, ?_⟩
  {
  intro y0 y1 y2 y3 y4 y5 y6
  unfold spec_l3Sound.l0
  have j0 := @spec_Sound.mono
  have j1 := @spec_l1Floor.mono
  exact qL
  }
  {
  intro y0 y1 y2 y3 y4 y5 y6
  unfold spec_l3Sound.j1
  have j0 := @spec_Sound.mono
  have j1 := @spec_l1Floor.mono
  exact qL
  }
theorem spec_l3Sound.mono : ∀ a0 a1 a2 k, LeO (spec_l3Sound.f k a0 a1 a2) (spec_l3Sound.f (k + 1) a0 a1 a2) := by
 intro a0 a1 a2 k
 obtain ⟨ih0, ih1⟩ := spec_l3Sound.mono_l k
 unfold spec_l3Sound.f
 have j0 := @spec_Sound.mono
 have j1 := @spec_l1Floor.mono
 exact qL
def spec_l3Sound.T8 : Bool × List (List Nat × List Nat) := (true, [([], []), ([0], [0]), ([], []), ([], []), ([2, 3], [2, 3]), ([4], [4]), ([1, 5, 4], [1, 5]), ([0, 1, 2, 3, 4, 5, 6], []), ([7, 6, 6, 0, 1, 2, 3, 4, 5, 6], [6, 7])])
def spec_l3Sound.B8 : List Nat := [0, 1, 0, 0, 12, 28, 63, 127, 255]
theorem spec_l3Sound.tab8 : rtab .any (opsOf Try.f89 8) = spec_l3Sound.T8 := by kernel_rfl
theorem spec_l3Sound.bits8 : waitsOk spec_l3Sound.T8.2 spec_l3Sound.B8 = true := by kernel_rfl
set_option maxHeartbeats 8000000 in
set_option maxRecDepth 100000 in
theorem spec_l3Sound.calls (k : Nat) (g : Nat) (s0_0 : List Int) (s0_1 : Int) (s0_2 : Int) (r1 : Int) (r2 : Int) (r3 : List Int) (r4 : Int) (r5 : Int) (w0 w : World) (hI : IsS113 w0 w g s0_0 s0_1 s0_2) (hB : Below w0.heap.size w0 w) (h : spec_l3Sound.f k s0_0 s0_1 s0_2 = some (r1, r2, r3, r4, r5)) :
  Calls Try.prog 89 #[.pointer (some ⟨g, 0, none⟩)] w fun e w' => ∃ v2_ : Value, e = .returned (.agg #[.int .i64 r1, .int .i64 r2, v2_]) ∧ Kd.R (Kd.int .i64) 3 w' w.heap.size (fun _ => True) v2_ r3 ∧ IsS113 w0 w' g s0_0 r4 r5 ∧ Below w0.heap.size w0 w' ∧ KeepBut w w' g none := by
 have hu43 := Try.underlying43
 have HI0 := aM hI
 have HK := aM (KeepBut.refl w g none)
 have HL := aM hB.size
 clear hI
 have HW0 := aM hB.size
 have HB := aM hB
 clear hB
 unfold spec_l3Sound.f at h
 have H := h
 clear h
 replace H := Option.bind_eq_some_iff.mp H
 obtain ⟨⟨t418, t419, t420, t423, t424⟩, A20, H⟩ := H
 try dsimp only at H
 have A2 := aM A20
 clear A20
 replace H := Option.bind_eq_some_iff.mp H
 obtain ⟨t426, A30, H⟩ := H
 have A3 := aM A30
 clear A30
 replace H := iB_ H
 rcases H with ⟨rfl, H⟩ | ⟨rfl, H⟩
 {
 simp only [Option.some.injEq, Prod.mk.injEq] at H
 obtain ⟨rfl, rfl, rfl, rfl, rfl⟩ := H
 go_enter Try.func89, Try.ntmps89
 go_wp2_with (first | ((with_reducible refine gate_dst (N := 2) rfl ?_); refine bx_ 2 #[.int .i64 0, .int .i64 0, .slice none 0 0] 43 ?_; intro gb417 hg w5 hbox hb; replace HB := bS_ hb; have BK417 := aM (hbox); have GW417 := aM (kz_ w g hg qz3); have GE417 := aM ((Nat.le_trans HW0.out (by rw [hg]; exact (keep_size (w := w) (g := g) (row := none) qz3) : w.heap.size ≤ gb417) : w0.heap.size ≤ gb417)); replace HK := aM (KeepBut.trans qz3 (KeepBut.of_below hb g none) (.inl rfl)); have NB0_417 := aM ((by rw [hg]; exact Nat.ne_of_lt (IsS113.lt (show IsS113 w0 _ g s0_0 s0_1 s0_2 from qz4)) : g ≠ gb417)); have NB417_0 := aM ((by rw [hg]; exact Nat.ne_of_gt (IsS113.lt (show IsS113 w0 _ g s0_0 s0_1 s0_2 from qz4)) : gb417 ≠ g)); replace HI0 := aM (IsS113.below qz4 hb); clear hb hbox hg) | ((with_reducible refine gate_callee (f := 84) rfl ?_); refine goesL_ (some 6) rfl rfl Try.func84 (by kernel_rfl) rfl #[.pointer (some ⟨g, 0, none⟩)] rfl qz2 ?_; (with_reducible refine (spec_l1Floor.calls k g s0_0 s0_1 s0_2 t418 t419 t420 t423 t424 w0 _ ?_ ?_ A2.out).mono ?_); exact qz4; exact qz1; rintro e w6 ⟨v421, rfl, ho0, hi, hb, hk⟩; refine ⟨_, rfl, ?_⟩; replace BK417 := aM (KeepBut.blk hk (bk_ BK417.out) NB417_0.out (by simp)); have HO422 := aM (Kd.R_lower ho0 (keep_size (w := w) (g := g) (row := none) qz3)); replace HK := aM (KeepBut.trans qz3 hk (.inl rfl)); replace HB := aM (hb); replace HI0 := aM (hi); (try clear hb hk hi ho0)) | ((with_reducible refine gate_dst (N := 3) rfl ?_); refine bx_ 3 #[.int .i64 0, .int .i64 0, .slice none 0 0] 43 ?_; intro gb425 hg w7 hbox hb; replace HO422 := aM (Kd.R_below (rr_ HO422.out) hb); replace HB := bS_ hb; have BK425 := aM (hbox); have GW425 := aM (kz_ w g hg qz3); have GE425 := aM ((Nat.le_trans HW0.out (by rw [hg]; exact (keep_size (w := w) (g := g) (row := none) qz3) : w.heap.size ≤ gb425) : w0.heap.size ≤ gb425)); replace HK := aM (KeepBut.trans qz3 (KeepBut.of_below hb g none) (.inl rfl)); obtain ⟨NB417_425, NB425_417⟩ := nb_ hg (bk_ BK417.out); replace BK417 := bB_ BK417 hb; have NB0_425 := aM ((by rw [hg]; exact Nat.ne_of_lt (IsS113.lt (show IsS113 w0 _ g s0_0 t423 t424 from qz4)) : g ≠ gb425)); have NB425_0 := aM ((by rw [hg]; exact Nat.ne_of_gt (IsS113.lt (show IsS113 w0 _ g s0_0 t423 t424 from qz4)) : gb425 ≠ g)); replace HI0 := aM (IsS113.below qz4 hb); clear hb hbox hg; have hnb8 := NB425_417.out; have hnc8 := NB417_425.out; have hnb9 := NB425_0.out; have hnc9 := NB0_425.out; obtain ⟨hcz10_0, hcz10_1, hcz10_2, hfz10_0, hfz10_1, hfz10_2⟩ := b6_ BK425.out; obtain ⟨Ao11, co11, eo11⟩ := Kd.R_slice HO422.out; subst eo11) | ((with_reducible refine gate_callee (f := 109) rfl ?_); refine goesL_ (some 8) rfl rfl Try.func109 (by kernel_rfl) rfl #[.agg #[.int .i64 t418, .int .i64 t419, .slice Ao11 t420.length co11]] rfl qz2 ?_; (with_reducible refine (spec_Sound.calls k t418 t419 _ _ t420 true _ ?side1 ?side2 A3.out).mono ?_); (case side1 => refine (Kd.R_reads' (e := 3) (base := w.heap.size) (ok := fun k_ => True) (n := t420.length) (c := co11) ?_).2.2; exact (by (with_reducible repeat (first | apply Kd.R_alloc | apply Kd.R_drewN | apply Kd.R_drew)); exact (Kd.R_mono (Kd.R_far (p := ⟨gb425, 2, none⟩) (Kd.R_far (p := ⟨gb425, 1, none⟩) (Kd.R_far (p := ⟨gb425, 0, none⟩) (Kd.R_types HO422.out BK425.out (by decide)) (fun _ hk => hk.2) (.int .i64 t418)) (fun _ hk => hk.2) (.int .i64 t419)) (fun _ hk => hk.2) (.slice Ao11 t420.length co11)) (fun _ h_ => h_.1)))); (case side2 => exact (Kd.R_reads' HO422.out).2.1); rintro e w12 ⟨rfl, hb⟩; refine ⟨_, rfl, ?_⟩; replace HO422 := aM (Kd.R_below (by (with_reducible repeat (first | apply Kd.R_alloc | apply Kd.R_drewN | apply Kd.R_drew)); exact (Kd.R_mono (Kd.R_far (p := ⟨gb425, 2, none⟩) (Kd.R_far (p := ⟨gb425, 1, none⟩) (Kd.R_far (p := ⟨gb425, 0, none⟩) (Kd.R_types HO422.out BK425.out (by decide)) (fun _ hk => hk.2) (.int .i64 t418)) (fun _ hk => hk.2) (.int .i64 t419)) (fun _ hk => hk.2) (.slice Ao11 t420.length co11)) (fun _ h_ => h_.1))) hb); replace BK417 := aM (blk_below (g := gb417) (o := .cells #[.int .i64 0, .int .i64 0, .slice none 0 0] 43 (0, 0)) (bk2_ BK417.out) hb); replace BK425 := aM (blk_below (g := gb425) (o := .cells #[.int .i64 t418, .int .i64 t419, .slice Ao11 t420.length co11] 43 (0, 0)) (by (with_reducible repeat (first | refine blk_drewN ?_ _ | refine blk_drew ?_ | refine blk_alloc ?_ _)); refine blk_put (cs := #[.int .i64 t418, .int .i64 t419, .slice none 0 0]) ?_ 2 _ rfl; (with_reducible repeat (first | refine blk_drewN ?_ _ | refine blk_drew ?_ | refine blk_alloc ?_ _)); refine blk_put (cs := #[.int .i64 t418, .int .i64 0, .slice none 0 0]) ?_ 1 _ rfl; (with_reducible repeat (first | refine blk_drewN ?_ _ | refine blk_drew ?_ | refine blk_alloc ?_ _)); refine blk_put (cs := #[.int .i64 0, .int .i64 0, .slice none 0 0]) ?_ 0 _ rfl; exact bk_ BK425.out) hb); replace HK := aM (KeepBut.trans qz3 (KeepBut.of_below hb g none) (.inl rfl)); replace HB := bS_ hb; replace HI0 := aM (IsS113.below (show IsS113 w0 (((w7.setCell ⟨gb425, 0, none⟩ (.int .i64 t418)).setCell ⟨gb425, 1, none⟩ (.int .i64 t419)).setCell ⟨gb425, 2, none⟩ (.slice Ao11 t420.length co11)) g s0_0 t423 t424 from qz4) hb); (try clear hb); obtain ⟨hcz13_0, hcz13_1, hcz13_2, hfz13_0, hfz13_1, hfz13_2⟩ := b6_ BK425.out; have hnb14 := NB417_0.out; have hnc14 := NB0_417.out; obtain ⟨hcz15_0, hcz15_1, hcz15_2, hfz15_0, hfz15_1, hfz15_2⟩ := b6_ BK417.out))
 refine bodyPost_ret (results_cell_row rfl _ _ gb417 43 #[.int .i64 t418, .int .i64 t419, .slice Ao11 t420.length co11] (0, 0) _ rfl (by (with_reducible repeat (first | refine blk_drewN ?_ _ | refine blk_drew ?_ | refine blk_alloc ?_ _)); refine blk_put (cs := #[.int .i64 t418, .int .i64 t419, .slice none 0 0]) ?_ 2 _ rfl; (with_reducible repeat (first | refine blk_drewN ?_ _ | refine blk_drew ?_ | refine blk_alloc ?_ _)); refine blk_put (cs := #[.int .i64 t418, .int .i64 0, .slice none 0 0]) ?_ 1 _ rfl; (with_reducible repeat (first | refine blk_drewN ?_ _ | refine blk_drew ?_ | refine blk_alloc ?_ _)); refine blk_put (cs := #[.int .i64 0, .int .i64 0, .slice none 0 0]) ?_ 0 _ rfl; exact bk_ BK417.out) Try.underlying43 rfl (by kernel_rfl)) rfl ?_
 exact ⟨_, qzw, by (with_reducible repeat (first | apply Kd.R_alloc | apply Kd.R_drewN | apply Kd.R_drew)); exact Kd.R_mono (Kd.R_far (p := ⟨gb417, 2, none⟩) (Kd.R_far (p := ⟨gb417, 1, none⟩) (Kd.R_far (p := ⟨gb417, 0, none⟩) (Kd.R_types HO422.out BK417.out (by decide)) (fun _ hk => hk.2) (.int .i64 t418)) (fun _ hk => hk.2) (.int .i64 t419)) (fun _ hk => hk.2) (.slice Ao11 t420.length co11)) (fun _ hk => trivial), qz4, qz1, qz3⟩
 }
 {
 replace H := Option.bind_eq_some_iff.mp H
 obtain ⟨⟨t427, t428, t429⟩, A160, H⟩ := H
 try dsimp only at H
 have A16 := aM A160
 clear A160
 replace H := Option.bind_eq_some_iff.mp H
 obtain ⟨⟨t430, t431, t432⟩, A170, H⟩ := H
 try dsimp only at H
 have A17 := aM A170
 clear A170
 have H' := aM H
 clear H
 go_enter Try.func89, Try.ntmps89
 go_wp2_with (first | ((with_reducible refine gate_dst (N := 2) rfl ?_); refine bx_ 2 #[.int .i64 0, .int .i64 0, .slice none 0 0] 43 ?_; intro gb417 hg w18 hbox hb; replace HB := bS_ hb; have BK417 := aM (hbox); have GW417 := aM (kz_ w g hg qz3); have GE417 := aM ((Nat.le_trans HW0.out (by rw [hg]; exact (keep_size (w := w) (g := g) (row := none) qz3) : w.heap.size ≤ gb417) : w0.heap.size ≤ gb417)); replace HK := aM (KeepBut.trans qz3 (KeepBut.of_below hb g none) (.inl rfl)); have NB0_417 := aM ((by rw [hg]; exact Nat.ne_of_lt (IsS113.lt (show IsS113 w0 _ g s0_0 s0_1 s0_2 from qz4)) : g ≠ gb417)); have NB417_0 := aM ((by rw [hg]; exact Nat.ne_of_gt (IsS113.lt (show IsS113 w0 _ g s0_0 s0_1 s0_2 from qz4)) : gb417 ≠ g)); replace HI0 := aM (IsS113.below qz4 hb); clear hb hbox hg) | ((with_reducible refine gate_callee (f := 84) rfl ?_); refine goesL_ (some 6) rfl rfl Try.func84 (by kernel_rfl) rfl #[.pointer (some ⟨g, 0, none⟩)] rfl qz2 ?_; (with_reducible refine (spec_l1Floor.calls k g s0_0 s0_1 s0_2 t418 t419 t420 t423 t424 w0 _ ?_ ?_ A2.out).mono ?_); exact qz4; exact qz1; rintro e w19 ⟨v421, rfl, ho0, hi, hb, hk⟩; refine ⟨_, rfl, ?_⟩; replace BK417 := aM (KeepBut.blk hk (bk_ BK417.out) NB417_0.out (by simp)); have HO422 := aM (Kd.R_lower ho0 (keep_size (w := w) (g := g) (row := none) qz3)); replace HK := aM (KeepBut.trans qz3 hk (.inl rfl)); replace HB := aM (hb); replace HI0 := aM (hi); (try clear hb hk hi ho0)) | ((with_reducible refine gate_dst (N := 3) rfl ?_); refine bx_ 3 #[.int .i64 0, .int .i64 0, .slice none 0 0] 43 ?_; intro gb425 hg w20 hbox hb; replace HO422 := aM (Kd.R_below (rr_ HO422.out) hb); replace HB := bS_ hb; have BK425 := aM (hbox); have GW425 := aM (kz_ w g hg qz3); have GE425 := aM ((Nat.le_trans HW0.out (by rw [hg]; exact (keep_size (w := w) (g := g) (row := none) qz3) : w.heap.size ≤ gb425) : w0.heap.size ≤ gb425)); replace HK := aM (KeepBut.trans qz3 (KeepBut.of_below hb g none) (.inl rfl)); obtain ⟨NB417_425, NB425_417⟩ := nb_ hg (bk_ BK417.out); replace BK417 := bB_ BK417 hb; have NB0_425 := aM ((by rw [hg]; exact Nat.ne_of_lt (IsS113.lt (show IsS113 w0 _ g s0_0 t423 t424 from qz4)) : g ≠ gb425)); have NB425_0 := aM ((by rw [hg]; exact Nat.ne_of_gt (IsS113.lt (show IsS113 w0 _ g s0_0 t423 t424 from qz4)) : gb425 ≠ g)); replace HI0 := aM (IsS113.below qz4 hb); clear hb hbox hg; have hnb21 := NB425_417.out; have hnc21 := NB417_425.out; have hnb22 := NB425_0.out; have hnc22 := NB0_425.out; obtain ⟨hcz23_0, hcz23_1, hcz23_2, hfz23_0, hfz23_1, hfz23_2⟩ := b6_ BK425.out; obtain ⟨Ao24, co24, eo24⟩ := Kd.R_slice HO422.out; subst eo24) | ((with_reducible refine gate_callee (f := 109) rfl ?_); refine goesL_ (some 8) rfl rfl Try.func109 (by kernel_rfl) rfl #[.agg #[.int .i64 t418, .int .i64 t419, .slice Ao24 t420.length co24]] rfl qz2 ?_; (with_reducible refine (spec_Sound.calls k t418 t419 _ _ t420 false _ ?side1 ?side2 A3.out).mono ?_); (case side1 => refine (Kd.R_reads' (e := 3) (base := w.heap.size) (ok := fun k_ => True) (n := t420.length) (c := co24) ?_).2.2; exact (by (with_reducible repeat (first | apply Kd.R_alloc | apply Kd.R_drewN | apply Kd.R_drew)); exact (Kd.R_mono (Kd.R_far (p := ⟨gb425, 2, none⟩) (Kd.R_far (p := ⟨gb425, 1, none⟩) (Kd.R_far (p := ⟨gb425, 0, none⟩) (Kd.R_types HO422.out BK425.out (by decide)) (fun _ hk => hk.2) (.int .i64 t418)) (fun _ hk => hk.2) (.int .i64 t419)) (fun _ hk => hk.2) (.slice Ao24 t420.length co24)) (fun _ h_ => h_.1)))); (case side2 => exact (Kd.R_reads' HO422.out).2.1); rintro e w25 ⟨rfl, hb⟩; refine ⟨_, rfl, ?_⟩; replace HO422 := aM (Kd.R_below (by (with_reducible repeat (first | apply Kd.R_alloc | apply Kd.R_drewN | apply Kd.R_drew)); exact (Kd.R_mono (Kd.R_far (p := ⟨gb425, 2, none⟩) (Kd.R_far (p := ⟨gb425, 1, none⟩) (Kd.R_far (p := ⟨gb425, 0, none⟩) (Kd.R_types HO422.out BK425.out (by decide)) (fun _ hk => hk.2) (.int .i64 t418)) (fun _ hk => hk.2) (.int .i64 t419)) (fun _ hk => hk.2) (.slice Ao24 t420.length co24)) (fun _ h_ => h_.1))) hb); replace BK417 := aM (blk_below (g := gb417) (o := .cells #[.int .i64 0, .int .i64 0, .slice none 0 0] 43 (0, 0)) (bk2_ BK417.out) hb); replace BK425 := aM (blk_below (g := gb425) (o := .cells #[.int .i64 t418, .int .i64 t419, .slice Ao24 t420.length co24] 43 (0, 0)) (by (with_reducible repeat (first | refine blk_drewN ?_ _ | refine blk_drew ?_ | refine blk_alloc ?_ _)); refine blk_put (cs := #[.int .i64 t418, .int .i64 t419, .slice none 0 0]) ?_ 2 _ rfl; (with_reducible repeat (first | refine blk_drewN ?_ _ | refine blk_drew ?_ | refine blk_alloc ?_ _)); refine blk_put (cs := #[.int .i64 t418, .int .i64 0, .slice none 0 0]) ?_ 1 _ rfl; (with_reducible repeat (first | refine blk_drewN ?_ _ | refine blk_drew ?_ | refine blk_alloc ?_ _)); refine blk_put (cs := #[.int .i64 0, .int .i64 0, .slice none 0 0]) ?_ 0 _ rfl; exact bk_ BK425.out) hb); replace HK := aM (KeepBut.trans qz3 (KeepBut.of_below hb g none) (.inl rfl)); replace HB := bS_ hb; replace HI0 := aM (IsS113.below (show IsS113 w0 (((w20.setCell ⟨gb425, 0, none⟩ (.int .i64 t418)).setCell ⟨gb425, 1, none⟩ (.int .i64 t419)).setCell ⟨gb425, 2, none⟩ (.slice Ao24 t420.length co24)) g s0_0 t423 t424 from qz4) hb); (try clear hb)) | ((with_reducible refine gate_callee (f := 73) rfl ?_); refine goesL_ (some 11) rfl rfl Try.func73 (by kernel_rfl) rfl #[.pointer (some ⟨g, 0, none⟩), .int .i64 4] rfl qz2 ?_; (with_reducible refine (spec_l1Below.calls g s0_0 t423 t424 4 t427 t428 t429 w0 _ ?_ ?_ A16.out).mono ?_); exact qz4; exact qz1; rintro e w26 ⟨rfl, hi, hb, hk⟩; refine ⟨_, rfl, ?_⟩; replace BK417 := aM (KeepBut.blk hk (bk_ BK417.out) NB417_0.out (by simp)); replace HO422 := aM (Kd.R_mono (Kd.R_keep (IsS113.apart (show IsS113 w0 _ g s0_0 t423 t424 from qz4) (rr_ HO422.out) (by decide)) hk (fun _ h => h.2)) (fun _ h => h.1)); replace BK425 := aM (KeepBut.blk hk (bk_ BK425.out) NB425_0.out (by simp)); replace HK := aM (KeepBut.trans qz3 hk (.inl rfl)); replace HB := aM (hb); replace HI0 := aM (hi); (try clear hb hk hi)) | ((with_reducible refine gate_callee (f := 73) rfl ?_); refine goesL_ (some 14) rfl rfl Try.func73 (by kernel_rfl) rfl #[.pointer (some ⟨g, 0, none⟩), .int .i64 3] rfl qz2 ?_; (with_reducible refine (spec_l1Below.calls g s0_0 t428 t429 3 t430 t431 t432 w0 _ ?_ ?_ A17.out).mono ?_); exact qz4; exact qz1; rintro e w27 ⟨rfl, hi, hb, hk⟩; refine ⟨_, rfl, ?_⟩; replace BK417 := aM (KeepBut.blk hk (bk_ BK417.out) NB417_0.out (by simp)); replace HO422 := aM (Kd.R_mono (Kd.R_keep (IsS113.apart (show IsS113 w0 _ g s0_0 t428 t429 from qz4) (rr_ HO422.out) (by decide)) hk (fun _ h => h.2)) (fun _ h => h.1)); replace BK425 := aM (KeepBut.blk hk (bk_ BK425.out) NB425_0.out (by simp)); replace HK := aM (KeepBut.trans qz3 hk (.inl rfl)); replace HB := aM (hb); replace HI0 := aM (hi); (try clear hb hk hi); obtain ⟨hcz28_0, hcz28_1, hcz28_2, hfz28_0, hfz28_1, hfz28_2⟩ := b6_ BK425.out))
 go_loopg [4] k (fun kq v4 w' => ∃ (x4_1 : Int) (x1001_1 : Int) (x1002_1 : Int) (x426002_1 : List Int) (u426002 : Value), v4 = .int .i64 x4_1 ∧ Aside0 (spec_l3Sound.l0 kq x4_1 s0_0 x1001_1 x1002_1 (wrap64 (2 + t427)) (wrap64 (2 + t430)) x426002_1 = some (r1, r2, r3, r4, r5)) ∧ Aside0 (kq ≤ k) ∧ Aside0 (Kd.R (Kd.int .i64) 3 w' w.heap.size (fun _ => True) u426002 x426002_1) ∧ Aside0 (w'.heap[gb417]? = some (.cells #[.int .i64 0, .int .i64 0, (.slice none 0 0)] 43 (0, 0))) ∧ Aside0 (w'.heap[gb425]? = some (.cells #[.int .i64 (wrap64 (2 + t427)), .int .i64 (wrap64 (2 + t430)), u426002] 43 (0, 0))) ∧ Aside0 (IsS113 w0 w' g s0_0 x1001_1 x1002_1) ∧ Aside0 (KeepBut w w' g none) ∧ Aside0 (Below w0.heap.size w0 w'))
 case atStart => exact ⟨(0), (t431), (t432), (([] : List Int)), (.slice none 0 0), qz6, H', ⟨Nat.le_refl _⟩, ⟨by first | exact Kd.R_nil _ _ _ _ _ | exact Kd.N_nil _ _ _ _ _ | exact Kd.V_nil _ _ _ _ _ | exact Kd.Q_nil _ _ _ _ _ | exact Kd.S_nil _ _ _ _ _⟩, ⟨by (with_reducible repeat (first | refine blk_drewN ?_ _ | refine blk_drew ?_ | refine blk_alloc ?_ _)); refine blk_far ?_ NB417_425.out _; (with_reducible repeat (first | refine blk_drewN ?_ _ | refine blk_drew ?_ | refine blk_alloc ?_ _)); refine blk_far ?_ NB417_425.out _; (with_reducible repeat (first | refine blk_drewN ?_ _ | refine blk_drew ?_ | refine blk_alloc ?_ _)); refine blk_far ?_ NB417_425.out _; exact bk_ BK417.out⟩, ⟨by (with_reducible repeat (first | refine blk_drewN ?_ _ | refine blk_drew ?_ | refine blk_alloc ?_ _)); refine blk_put (cs := #[.int .i64 (wrap64 (2 + t427)), .int .i64 (wrap64 (2 + t430)), .slice Ao24 t420.length co24]) ?_ 2 _ rfl; (with_reducible repeat (first | refine blk_drewN ?_ _ | refine blk_drew ?_ | refine blk_alloc ?_ _)); refine blk_put (cs := #[.int .i64 (wrap64 (2 + t427)), .int .i64 t419, .slice Ao24 t420.length co24]) ?_ 1 _ rfl; (with_reducible repeat (first | refine blk_drewN ?_ _ | refine blk_drew ?_ | refine blk_alloc ?_ _)); refine blk_put (cs := #[.int .i64 t418, .int .i64 t419, .slice Ao24 t420.length co24]) ?_ 0 _ rfl; exact bk_ BK425.out⟩, ⟨qz4⟩, ⟨qz3⟩, ⟨qz1⟩⟩
 case round =>
 clear H'
 try clear c4
 try clear hcz23_0 hcz23_1 hcz23_2 hfz23_0 hfz23_1 hfz23_2
 try clear hcz28_0 hcz28_1 hcz28_2 hfz28_0 hfz28_1 hfz28_2
 obtain ⟨x4_1, x1001_1, x1002_1, x426002_1, u426002, rfl, HA, HK1, HO_426002, BK417, BK425, HI0, HK, HB⟩ := hrel
 cases gk with
 | zero => exact absurd HA.out (by simp [spec_l3Sound.l0])
 | succ k1 =>
 have H := HA.out
 clear HA
 simp only [spec_l3Sound.l0] at H
 replace H := iE_ H
 rcases H with ⟨c29b0, H⟩ | ⟨c29b0, H⟩
 {
 obtain ⟨y433, hy433⟩ : ∃ y_ : List Int, y_ = (([1, 1, 1, 2, 3, 4] : List Int)) := ⟨_, rfl⟩
 replace H : ((spec_l1Int.f s0_0 x1001_1 x1002_1 y433).bind fun bt436 => (if x426002_1.length < 17592186044416 then (spec_l3Sound.l0 k1 (wrap64 (x4_1 + 1)) s0_0 bt436.2.1 bt436.2.2 (wrap64 (2 + t427)) (wrap64 (2 + t430)) (x426002_1 ++ [bt436.1])) else (none))) = some (r1, r2, r3, r4, r5) := by first | (rw [hy433]; exact H) | exact H
 have Ny433 := aM hy433
 clear hy433
 replace H := Option.bind_eq_some_iff.mp H
 obtain ⟨⟨t436, t437, t438⟩, A300, H⟩ := H
 try dsimp only at H
 have A30 := aM A300
 clear A300
 replace H := iN_ H
 obtain ⟨c31, H⟩ := H
 have LMc31 := aM c31
 clear c31
 obtain ⟨y439, hy439⟩ : ∃ y_ : List Int, y_ = (x426002_1 ++ [t436]) := ⟨_, rfl⟩
 replace H : (spec_l3Sound.l0 k1 (wrap64 (x4_1 + 1)) s0_0 t437 t438 (wrap64 (2 + t427)) (wrap64 (2 + t430)) y439) = some (r1, r2, r3, r4, r5) := by first | (rw [hy439]; exact H) | exact H
 have Ny439 := aM hy439
 clear hy439
 have H' := aM H
 clear H
 have hnb32 := NB425_417.out
 have hnc32 := NB417_425.out
 have hnb33 := NB425_0.out
 have hnc33 := NB0_425.out
 obtain ⟨hcz34_0, hcz34_1, hcz34_2, hfz34_0, hfz34_1, hfz34_2⟩ := b6_ BK425.out
 try go_wp2
 replace HO_426002 := aM (Kd.R_drew HO_426002.out)
 replace BK417 := aM (blk_drew BK417.out)
 replace BK425 := aM (blk_drew BK425.out)
 replace HI0 := aM (IsS113.drew HI0.out)
 replace HK := aM (keep_drew HK.out)
 replace HB := aM (below_drew1 HB.out)
 refine start_ (n := 9) (S := fun w' => w'.cell? ⟨gb425, 0, none⟩ = some (.int .i64 (wrap64 (2 + t427))) ∧ w'.cell? ⟨gb425, 1, none⟩ = some (.int .i64 (wrap64 (2 + t430))) ∧ w'.cell? ⟨gb425, 2, none⟩ = some (u426002)) (ds := [8]) #[false, false, false, false, false, false, false, false, false] (by kernel_rfl) rfl rfl ⟨(blk_cell BK425.out 0).trans rfl, (blk_cell BK425.out 1).trans rfl, (blk_cell BK425.out 2).trans rfl⟩ (fun hHeld => ?_); refine with_tabW spec_l3Sound.tab8 spec_l3Sound.bits8 (fun HT_ HW_ => ?_)
 generalize wr.drew = w35 at HO_426002 BK417 BK425 HI0 HK HB hHeld ⊢
 refine pI_ 0 26 (bqz 9 1) ?_
 refine jI_ 2 28 ?_
 refine sI3_ 1 27 ?_
 refine oI_ 3 29 (bqz 9 15) (fun K hK => ?_)
 refine Kd.R_lit_step (Kd.int .i64) _ 3 ?hg (N := 29) ?hd (xs := ([1, 1, 1, 2, 3, 4] : List Int)) (inner := [.int .i64 1, .int .i64 1, .int .i64 1, .int .i64 2, .int .i64 3, .int .i64 4]) (ok := fun _ => True) (okp := fun _ => True) ?hr ?hp (fun _ hk => hk) trivial (Below.refl _ _) (Nat.le_refl _) (by simp) ?_; (case hd => rfl); (case hg => rfl); (case hr => exact qz7); (case hp => exact (Reps.one (show Kd.M (Kd.int .i64) _ _ _ 1 [.int .i64 1] from rfl) (Reps.one (show Kd.M (Kd.int .i64) _ _ _ 1 [.int .i64 1] from rfl) (Reps.one (show Kd.M (Kd.int .i64) _ _ _ 1 [.int .i64 1] from rfl) (Reps.one (show Kd.M (Kd.int .i64) _ _ _ 2 [.int .i64 2] from rfl) (Reps.one (show Kd.M (Kd.int .i64) _ _ _ 3 [.int .i64 3] from rfl) (Reps.one (show Kd.M (Kd.int .i64) _ _ _ 4 [.int .i64 4] from rfl) (Reps.none _ _))))))))
 intro v434 w36 ho37 hb hg_ hnew_
 clear hg_ hnew_
 (first | rw [← Ny433.out] at ho37 | (simp only [Int.reduceToNat] at ho37; rw [← Ny433.out] at ho37))
 have HO435 := aM (Kd.R_lower (Kd.R_new' ho37 (Kd.R_lt (rr_ HO_426002.out))) (keep_size (w := w) (g := g) (row := none) qz3))
 replace HO_426002 := aM (Kd.R_elder' (rr_ HO_426002.out) (Kd.R_base ho37) hb)
 replace BK417 := bB_ BK417 hb
 replace BK425 := bB_ BK425 hb
 replace HK := aM (KeepBut.trans qz3 (KeepBut.of_below hb g none) (.inl rfl))
 replace HB := bS_ hb
 replace HI0 := aM (IsS113.below qz4 hb)
 clear hb ho37
 obtain ⟨Ao38, co38, eo38⟩ := Kd.R_slice HO435.out
 (first | subst eo38 | (injection eo38 with f1_ f2_ f3_; have f4_ := f1_.symm; have f5_ := f3_.symm; clear f1_ f2_ f3_; subst f4_; subst f5_))
 refine hK.out _ _ ⟨(blk_cell BK425.out 0).trans rfl, (blk_cell BK425.out 1).trans rfl, (blk_cell BK425.out 2).trans rfl⟩ (fun hHeld => ?_)
 clear hK K
 refine nm_ 29 ?_
 refine oI_ 4 30 (bqz 9 31) (fun K hK => ?_)
 refine goes_ Try.func81 (by kernel_rfl) rfl #[.pointer (some ⟨g, 0, none⟩), .slice Ao38 y433.length co38] (by rfl) rfl rfl qz2 ?_
 with_reducible refine (spec_l1Int.calls g s0_0 x1001_1 x1002_1 _ _ y433 t436 t437 t438 w0 _ ?side1 ?side2 ?side3 ?side4 ?side5 A30.out).mono ?_
 (case side1 => exact qz4)
 (case side2 => exact qz1)
 (case side3 => repeat (first | exact (Kd.R_reads' HO435.out).2.2 | (with_reducible refine Kd.C_alloc ?_ _) | (with_reducible refine Kd.C_drewN ?_ _) | (with_reducible refine Kd.C_drew ?_)))
 (case side4 => exact (Kd.R_reads' HO435.out).2.1)
 (case side5 => exact far_slice (IsS113.own_ne HI0.out HO435.out (by decide)))
 rintro e w39 ⟨rfl, hi, hb, hk⟩
 refine ⟨_, rfl, ?_⟩
 replace HO_426002 := aM (Kd.R_mono (Kd.R_keep (IsS113.apart (show IsS113 w0 _ g s0_0 x1001_1 x1002_1 from qz4) (rr_ HO_426002.out) (by decide)) hk (fun _ h => h.2)) (fun _ h => h.1))
 replace BK417 := aM (KeepBut.blk hk (bk_ BK417.out) NB417_0.out (by simp))
 replace BK425 := aM (KeepBut.blk hk (bk_ BK425.out) NB425_0.out (by simp))
 replace HO435 := aM (Kd.R_mono (Kd.R_keep (IsS113.apart (show IsS113 w0 _ g s0_0 x1001_1 x1002_1 from qz4) (rr_ HO435.out) (by decide)) hk (fun _ h => h.2)) (fun _ h => h.1))
 replace HK := aM (KeepBut.trans qz3 hk (.inl rfl))
 replace HB := aM (hb)
 replace HI0 := aM (hi)
 (try clear hb)
 (try clear hb2)
 (try clear hk)
 (try clear hi)
 refine hK.out _ _ ⟨(blk_cell BK425.out 0).trans rfl, (blk_cell BK425.out 1).trans rfl, (blk_cell BK425.out 2).trans rfl⟩ (fun hHeld => ?_)
 clear hK K
 refine nm_ 30 ?_
 refine oI_ 5 31 (bqz 9 63) (fun K hK => ?_)
 refine value_ (w1 := ?_) (v := ?_) (by rfl) rfl ?_ ?_
 rotate_left 2
 {
 go_simp
 constructor
 {
 rfl
 }
 {
 rfl
 }
 }
 refine hK.out _ _ ⟨(blk_cell (blk_alloc BK425.out _) 0).trans rfl, (blk_cell (blk_alloc BK425.out _) 1).trans rfl, (blk_cell (blk_alloc BK425.out _) 2).trans rfl⟩ (fun hHeld => ?_)
 clear hK K
 refine nm_ 31 ?_
 refine oI_ 6 32 (bqz 9 127) (fun K hK => ?_)
 refine Kd.R_append_step (Kd.int .i64) w.heap.size (by rfl) (.tmp 27) (.tmp 31) 24 3 (.int .i64 0) 8 rfl Try.underlying24 info3 rfl (by decide) (by omega) u426002 x426002_1 t436 [.int .i64 t436] (fun k_ => some k_ ≠ (.slice Ao38 y433.length co38 : Value).ownBlock) (fun _ => False) rfl rfl ?aP (fun _ hk => hk.elim) ?aF ?aO (Below.refl _ _) ?aS ?aL ?_
 (case aP => exact rfl)
 (case aF => exact (fun k_ hk => Kd.fresh' (Kd.R_lt (rr_ HO435.out)) k_ hk))
 (case aO => exact (by (with_reducible repeat (first | apply Kd.R_alloc | apply Kd.R_drewN | apply Kd.R_drew)); exact Kd.R_mono HO_426002.out (fun _ hk => hk.2)))
 (case aS => exact (keep_size (w := w) (g := g) (row := none) qz3))
 (case aL => have := LMc31.out; omega)
 intro v440 w40 ho hb hg hat
 rw [← Ny439.out] at ho
 replace BK417 := aM (blk_grown (bk_ BK417.out) hg (Kd.R_ne HO_426002.out BK417.out (by decide)))
 replace BK425 := aM (blk_grown (bk_ BK425.out) hg (Kd.R_ne HO_426002.out BK425.out (by decide)))
 replace HO435 := aM (Kd.R_after (ok := (fun _ => True)) (rr_ HO435.out) hg hat)
 replace HB := aM (below_weaken qz1 HL.out hb)
 replace HI0 := aM (IsS113.grown qz4 hg (IsS113.own_ne HI0.out HO_426002.out (by decide)))
 replace HK := aM (KeepBut.trans qz3 (KeepBut.of_grown hg g) (Kd.R_base2 HO_426002.out))
 have HO441 := aM (ho)
 clear HO_426002 ho hb hg hat
 obtain ⟨Ao41, co41, eo41⟩ := Kd.R_slice HO441.out
 (first | subst eo41 | (injection eo41 with f1_ f2_ f3_; have f4_ := f1_.symm; have f5_ := f3_.symm; clear f1_ f2_ f3_; subst f4_; subst f5_))
 refine hK.out _ _ ⟨(blk_cell BK425.out 0).trans rfl, (blk_cell BK425.out 1).trans rfl, (blk_cell BK425.out 2).trans rfl⟩ (fun hHeld => ?_)
 clear hK K
 refine nm_ 32 ?_
 refine pI_ 7 33 (bqz 9 255) ?_
 refine last_ (i := 8) (N := none) (bqz 9 511) rfl rfl qzc (by decide) (fun K hK => ?_)
 have hs42 : w40.cell? ⟨gb425, 2, none⟩ = some (u426002) := (blk_cell BK425.out 2).trans rfl
 have hfs42 := blk_frozen BK425.out 2
 have hns42_0 := NB417_425.out
 have hms42_0 := NB425_417.out
 refine sk_ ?_
 refine hK.out _ _ ?_
 clear hK K
 refine done_ (done_of HT_.out (by kernel_rfl)) ?_
 try go_wp2
 go_roundg k1
 case measure => have := HK1.out; omega
 case rel => exact ⟨(wrap64 (x4_1 + 1)), (t437), (t438), (y439), (.slice Ao41 y439.length co41), qz6, H', ⟨by have := HK1.out; omega⟩, ⟨by (with_reducible repeat (first | apply Kd.R_alloc | apply Kd.R_drewN | apply Kd.R_drew)); exact Kd.R_mono (Kd.R_far (p := ⟨gb425, 2, none⟩) (Kd.R_types HO441.out BK425.out (by decide)) (fun _ hk => hk.2) (.slice Ao41 y439.length co41)) (fun _ hk => trivial)⟩, ⟨by (with_reducible repeat (first | refine blk_drewN ?_ _ | refine blk_drew ?_ | refine blk_alloc ?_ _)); refine blk_far ?_ NB417_425.out _; exact bk_ BK417.out⟩, ⟨by (with_reducible repeat (first | refine blk_drewN ?_ _ | refine blk_drew ?_ | refine blk_alloc ?_ _)); refine blk_put (cs := #[.int .i64 (wrap64 (2 + t427)), .int .i64 (wrap64 (2 + t430)), u426002]) ?_ 2 _ rfl; exact bk_ BK425.out⟩, ⟨qz4⟩, ⟨qz3⟩, ⟨qz1⟩⟩
 }
 {
 have HC43 := aM H
 clear H
 have hnb44 := NB425_417.out
 have hnc44 := NB417_425.out
 have hnb45 := NB425_0.out
 have hnc45 := NB0_425.out
 obtain ⟨hcz46_0, hcz46_1, hcz46_2, hfz46_0, hfz46_1, hfz46_2⟩ := b6_ BK425.out
 go_upto_region 9 with (fail)
 go_cut [45] (fun v45 wc => ∃ (kq : Nat) (x45_42 : Bool) (x1001_42 : Int) (x1002_42 : Int), v45 = .bool x45_42 ∧ Aside0 (spec_l3Sound.j1 kq x45_42 s0_0 x1001_42 x1002_42 (wrap64 (2 + t427)) (wrap64 (2 + t430)) x426002_1 = some (r1, r2, r3, r4, r5)) ∧ Aside0 (kq ≤ k1) ∧ Aside0 (Kd.R (Kd.int .i64) 3 wc w.heap.size (fun _ => True) u426002 x426002_1) ∧ Aside0 (wc.heap[gb417]? = some (.cells #[.int .i64 0, .int .i64 0, (.slice none 0 0)] 43 (0, 0))) ∧ Aside0 (wc.heap[gb425]? = some (.cells #[.int .i64 (wrap64 (2 + t427)), .int .i64 (wrap64 (2 + t430)), u426002] 43 (0, 0))) ∧ Aside0 (IsS113 w0 wc g s0_0 x1001_42 x1002_42) ∧ Aside0 (KeepBut w wc g none) ∧ Aside0 (Below w0.heap.size w0 wc))
 case first =>
  have H := HC43.out
  clear HC43
  replace H := iE_ H
  rcases H with ⟨c47b0, H⟩ | ⟨c47b0, H⟩
  {
  (first | rw [c47b0] | (simp only [i64_w, i32_w]; rw [c47b0]) | rw [@decide_eq_true _ _ (of_decide_eq_true c47b0)] | rw [@decide_eq_true _ _ (of_decide_eq_true c47b1)] | skip)
  replace H := iE_ H
  rcases H with ⟨c48b0, H⟩ | ⟨c48b0, H⟩
  {
  replace H := Option.bind_eq_some_iff.mp H
  obtain ⟨⟨t442, t443, t444⟩, A490, H⟩ := H
  try dsimp only at H
  have A49 := aM A490
  clear A490
  have H' := aM H
  clear H
  have hnb50 := NB425_417.out
  have hnc50 := NB417_425.out
  have hnb51 := NB425_0.out
  have hnc51 := NB0_425.out
  obtain ⟨hcz52_0, hcz52_1, hcz52_2, hfz52_0, hfz52_1, hfz52_2⟩ := b6_ BK425.out
  go_wp2_with (first | (go_at_call 80; (with_reducible refine (spec_l1Once.calls g s0_0 x1001_1 x1002_1 2 t442 t443 t444 w0 _ ?_ ?_ A49.out).mono ?_); exact qz4; exact qz1; rintro e w53 ⟨rfl, hi, hb, hk⟩; replace HO_426002 := aM (Kd.R_mono (Kd.R_keep (IsS113.apart (show IsS113 w0 _ g s0_0 x1001_1 x1002_1 from qz4) (rr_ HO_426002.out) (by decide)) hk (fun _ h => h.2)) (fun _ h => h.1)); replace BK417 := aM (KeepBut.blk hk (bk_ BK417.out) NB417_0.out (by simp)); replace BK425 := aM (KeepBut.blk hk (bk_ BK425.out) NB425_0.out (by simp)); replace HK := aM (KeepBut.trans qz3 hk (.inl rfl)); replace HB := aM (hb); replace HI0 := aM (hi); (try clear hb hk hi)))
  go_meet
  case rel => exact ⟨_, (t442), (t443), (t444), qz6, H', ⟨by have := HK1.out; first | omega | exact Nat.le_refl _⟩, ⟨rm_ HO_426002.out⟩, ⟨bk_ BK417.out⟩, ⟨bk_ BK425.out⟩, ⟨qz4⟩, ⟨qz3⟩, ⟨qz1⟩⟩
  }
  {
  have H' := aM H
  clear H
  have hnb54 := NB425_417.out
  have hnc54 := NB417_425.out
  have hnb55 := NB425_0.out
  have hnc55 := NB0_425.out
  obtain ⟨hcz56_0, hcz56_1, hcz56_2, hfz56_0, hfz56_1, hfz56_2⟩ := b6_ BK425.out
  go_wp2
  go_meet
  case rel => exact ⟨_, (false), (x1001_1), (x1002_1), qz6, H', ⟨by have := HK1.out; first | omega | exact Nat.le_refl _⟩, ⟨rm_ HO_426002.out⟩, ⟨bk_ BK417.out⟩, ⟨bk_ BK425.out⟩, ⟨qz4⟩, ⟨qz3⟩, ⟨qz1⟩⟩
  }
  }
  {
  (first | rw [c47b0] | (simp only [i64_w, i32_w]; rw [c47b0]) | rw [@decide_eq_false _ _ (of_decide_eq_false c47b0)] | rw [@decide_eq_false _ _ (of_decide_eq_false c47b1)] | skip)
  have H' := aM H
  clear H
  have hnb57 := NB425_417.out
  have hnc57 := NB417_425.out
  have hnb58 := NB425_0.out
  have hnc58 := NB0_425.out
  obtain ⟨hcz59_0, hcz59_1, hcz59_2, hfz59_0, hfz59_1, hfz59_2⟩ := b6_ BK425.out
  go_wp2
  go_meet
  case rel => exact ⟨_, (false), (x1001_1), (x1002_1), qz6, H', ⟨by have := HK1.out; first | omega | exact Nat.le_refl _⟩, ⟨rm_ HO_426002.out⟩, ⟨bk_ BK417.out⟩, ⟨bk_ BK425.out⟩, ⟨qz4⟩, ⟨qz3⟩, ⟨qz1⟩⟩
  }
 case rest =>
 clear HC43
 try clear c4
 try clear c29
 try clear c29b0
 try clear hcz23_0 hcz23_1 hcz23_2 hfz23_0 hfz23_1 hfz23_2
 try clear hcz28_0 hcz28_1 hcz28_2 hfz28_0 hfz28_1 hfz28_2
 try clear hcz46_0 hcz46_1 hcz46_2 hfz46_0 hfz46_1 hfz46_2
 obtain ⟨kq, x45_42, x1001_42, x1002_42, rfl, HA, HJ42, HO_426002, BK417, BK425, HI0, HK, HB⟩ := hcut
 cases kq with
 | zero => exact absurd HA.out (by simp [spec_l3Sound.j1])
 | succ kj42 =>
 have H := HA.out
 clear HA
 simp only [spec_l3Sound.j1] at H
 replace H := iB_ H
 rcases H with ⟨rfl, H⟩ | ⟨rfl, H⟩
 {
 obtain ⟨ji61, hji61⟩ : ∃ j_ : Int, (wrap64 ((wrap64 (2 + t427)) + 1)) = j_ := ⟨_, rfl⟩
 replace H : (if 0 ≤ (ji61) then (if (ji61) < (x426002_1.length : Int) then ((some (x426002_1.set ((ji61) : Int).toNat 0 : List Int)).bind fun y445 => ((spec_Sound.f kj42 (wrap64 (2 + t427)) (wrap64 (2 + t430)) y445).bind fun t446 => (if t446 = true then (some ((wrap64 (2 + t427)), (wrap64 (2 + t430)), y445, x1001_42, x1002_42)) else (some ((wrap64 (2 + t427)), (wrap64 (2 + t430)), (y445.set ((ji61) : Int).toNat 1), x1001_42, x1002_42))))) else (none)) else (none)) = some (r1, r2, r3, r4, r5) := by first | (rw [hji61] at H; exact H) | (simp only [hji61] at H ⊢; exact H)
 have hji61w : (IntKind.i64.wrap ((wrap64 (2 + t427)) + 1)) = ji61 := (i64_w _).trans hji61
 replace H := iD_ H
 obtain ⟨c62b0, H⟩ := H
 replace H := iD_ H
 obtain ⟨c63b0, H⟩ := H
 obtain ⟨y445, hy445⟩ : ∃ y_ : List Int, y_ = (x426002_1.set ((ji61) : Int).toNat 0) := ⟨_, rfl⟩
 replace H := yB_ hy445 H
 have Ny445 := aM hy445
 clear hy445
 replace H := Option.bind_eq_some_iff.mp H
 obtain ⟨t446, A650, H⟩ := H
 have A65 := aM A650
 clear A650
 replace H := iB_ H
 rcases H with ⟨rfl, H⟩ | ⟨rfl, H⟩
 {
 simp only [Option.some.injEq, Prod.mk.injEq] at H
 obtain ⟨rfl, rfl, rfl, rfl, rfl⟩ := H
 have hnb67 := NB425_417.out
 have hnc67 := NB417_425.out
 have hnb68 := NB425_0.out
 have hnc68 := NB0_425.out
 obtain ⟨hcz69_0, hcz69_1, hcz69_2, hfz69_0, hfz69_1, hfz69_2⟩ := b6_ BK425.out
 have p64 : 0 ≤ ((ji61) : Int) := dt_
 have q64 : ((ji61) : Int) < ((x426002_1.length : Int) : Int) := dt_
 obtain ⟨go64, co64, eo64, gb64, gl64, cl64, HG64⟩ := Kd.R_form HO_426002.out (by omega)
 (first | cases eo64 | (injection eo64 with ea_ en_ ec_; (first | subst ea_ | (injection ea_ with ea_; subst ea_)); subst ec_; clear en_))
 have GB64 := aM gb64
 have GG64 := aM HG64
 clear gb64 gl64 HG64
 obtain ⟨hx64_0, hf64_0⟩ := Kd.R_celln 0 HO_426002.out ((ji61) : Int) p64 q64
 replace p64 := eq_true p64
 replace q64 := eq_true q64
 obtain ⟨hy70_, hz70_⟩ := Kd.R_celln 0 HO_426002.out ((ji61) : Int) (dt_) (dt_)
 have HP70 := Kd.R_putg HO_426002.out ((ji61) : Int) 0
 go_wp2_with (first | ((with_reducible refine gate_store (t := 3) (p := 51) rfl ?_); refine store_event (t := 3) (p := 51) (v := ?vo_w71) (w1 := (wc.setCell ⟨go64, ((ji61) : Int).toNat, none⟩ (.int .i64 0))) ?hg ?ho ?hn ?hr ?_; (case ho => rfl); (case hg => rfl); (case hn => rfl); (case hr => exact qz7); intro w71 hw; have hg : wc.grownBy w71 (some go64) := (by rw [hw]; exact HP70.2); have hp_ : Kd.R (Kd.int .i64) 3 w71 w.heap.size (fun _ => True) (.slice (some ⟨go64, 0, none⟩) x426002_1.length co64) y445 := (by rw [hw, Ny445.out]; exact HP70.1); clear HP70; replace BK417 := aM (blk_grown (bk_ BK417.out) hg (Kd.R_ne HO_426002.out BK417.out (by decide))); replace BK425 := aM (blk_grown (bk_ BK425.out) hg (Kd.R_ne HO_426002.out BK425.out (by decide))); replace HI0 := aM (IsS113.grown qz4 hg (IsS113.own_ne HI0.out HO_426002.out (by decide))); replace HB := aM ((by rw [hw]; exact below_set (HB.out) (Nat.le_trans HL.out GB64.out) : Below w0.heap.size w0 w71)); replace HK := aM (KeepBut.trans qz3 (KeepBut.of_grown hg g) (Kd.R_base2 HO_426002.out)); replace HO_426002 := aM (hp_); clear hg hw hp_; obtain ⟨hcz72_0, hcz72_1, hcz72_2, hfz72_0, hfz72_1, hfz72_2⟩ := b6_ BK425.out) | ((with_reducible refine gate_callee (f := 109) rfl ?_); refine goesL_ (some 53) rfl rfl Try.func109 (by kernel_rfl) rfl #[.agg #[.int .i64 (wrap64 (2 + t427)), .int .i64 (wrap64 (2 + t430)), .slice (some ⟨go64, 0, none⟩) y445.length co64]] rfl qz15 ?_; (with_reducible refine (spec_Sound.calls kj42 (wrap64 (2 + t427)) (wrap64 (2 + t430)) _ _ y445 true _ ?side1 ?side2 A65.out).mono ?_); (case side1 => repeat (first | exact (Kd.R_reads' HO_426002.out).2.2 | (with_reducible refine Kd.C_alloc ?_ _) | (with_reducible refine Kd.C_drewN ?_ _) | (with_reducible refine Kd.C_drew ?_))); (case side2 => rw [show y445.length = x426002_1.length from (Kd.R_reads' HO_426002.out).1.symm]; exact (Kd.R_reads' HO_426002.out).2.1); rintro e w73 ⟨rfl, hb⟩; refine ⟨_, rfl, ?_⟩; replace HO_426002 := aM (Kd.R_below (rr_ HO_426002.out) hb); replace BK417 := bB_ BK417 hb; replace BK425 := bB_ BK425 hb; replace HK := aM (KeepBut.trans qz3 (KeepBut.of_below hb g none) (.inl rfl)); replace HB := bS_ hb; replace HI0 := aM (IsS113.below qz4 hb); (try clear hb); obtain ⟨hcz74_0, hcz74_1, hcz74_2, hfz74_0, hfz74_1, hfz74_2⟩ := b6_ BK425.out; have hnb75 := NB417_0.out; have hnc75 := NB0_417.out; obtain ⟨hcz76_0, hcz76_1, hcz76_2, hfz76_0, hfz76_1, hfz76_2⟩ := b6_ BK417.out))
 refine bodyPost_ret (results_cell_row rfl _ _ gb417 43 #[.int .i64 (wrap64 (2 + t427)), .int .i64 (wrap64 (2 + t430)), .slice (some ⟨go64, 0, none⟩) x426002_1.length co64] (0, 0) _ rfl (by (with_reducible repeat (first | refine blk_drewN ?_ _ | refine blk_drew ?_ | refine blk_alloc ?_ _)); refine blk_put (cs := #[.int .i64 (wrap64 (2 + t427)), .int .i64 (wrap64 (2 + t430)), .slice none 0 0]) ?_ 2 _ rfl; (with_reducible repeat (first | refine blk_drewN ?_ _ | refine blk_drew ?_ | refine blk_alloc ?_ _)); refine blk_put (cs := #[.int .i64 (wrap64 (2 + t427)), .int .i64 0, .slice none 0 0]) ?_ 1 _ rfl; (with_reducible repeat (first | refine blk_drewN ?_ _ | refine blk_drew ?_ | refine blk_alloc ?_ _)); refine blk_put (cs := #[.int .i64 0, .int .i64 0, .slice none 0 0]) ?_ 0 _ rfl; exact bk_ BK417.out) Try.underlying43 rfl (by kernel_rfl)) rfl ?_
 exact ⟨_, by first | rfl | (simp [errW_none, errW_some] <;> rfl) | (simp only [← hji61]; first | rfl | (simp [errW_none, errW_some] <;> rfl)) | (simp [*, errW_none, errW_some] <;> rfl), by (with_reducible repeat (first | apply Kd.R_alloc | apply Kd.R_drewN | apply Kd.R_drew)); exact Kd.R_mono (Kd.R_far (p := ⟨gb417, 2, none⟩) (Kd.R_far (p := ⟨gb417, 1, none⟩) (Kd.R_far (p := ⟨gb417, 0, none⟩) (Kd.R_types HO_426002.out BK417.out (by decide)) (fun _ hk => hk.2) (.int .i64 (wrap64 (2 + t427)))) (fun _ hk => hk.2) (.int .i64 (wrap64 (2 + t430)))) (fun _ hk => hk.2) (.slice (some ⟨go64, 0, none⟩) x426002_1.length co64)) (fun _ hk => trivial), qz4, qz1, qz3⟩
 }
 {
 obtain ⟨y447, hy447⟩ : ∃ y_ : List Int, y_ = (y445.set ((ji61) : Int).toNat 1) := ⟨_, rfl⟩
 replace H : (some ((wrap64 (2 + t427)), (wrap64 (2 + t430)), y447, x1001_42, x1002_42)) = some (r1, r2, r3, r4, r5) := by first | (rw [hy447]; exact H) | exact H
 have Ny447 := aM hy447
 clear hy447
 simp only [Option.some.injEq, Prod.mk.injEq] at H
 obtain ⟨rfl, rfl, rfl, rfl, rfl⟩ := H
 have hnb78 := NB425_417.out
 have hnc78 := NB417_425.out
 have hnb79 := NB425_0.out
 have hnc79 := NB0_425.out
 obtain ⟨hcz80_0, hcz80_1, hcz80_2, hfz80_0, hfz80_1, hfz80_2⟩ := b6_ BK425.out
 have p64 : 0 ≤ ((ji61) : Int) := dt_
 have q64 : ((ji61) : Int) < ((x426002_1.length : Int) : Int) := dt_
 obtain ⟨go64, co64, eo64, gb64, gl64, cl64, HG64⟩ := Kd.R_form HO_426002.out (by omega)
 (first | cases eo64 | (injection eo64 with ea_ en_ ec_; (first | subst ea_ | (injection ea_ with ea_; subst ea_)); subst ec_; clear en_))
 have GB64 := aM gb64
 have GG64 := aM HG64
 clear gb64 gl64 HG64
 obtain ⟨hx64_0, hf64_0⟩ := Kd.R_celln 0 HO_426002.out ((ji61) : Int) p64 q64
 replace p64 := eq_true p64
 replace q64 := eq_true q64
 obtain ⟨hy81_, hz81_⟩ := Kd.R_celln 0 HO_426002.out ((ji61) : Int) (dt_) (dt_)
 have HP81 := Kd.R_putg HO_426002.out ((ji61) : Int) 0
 go_wp2_with (first | ((with_reducible refine gate_store (t := 3) (p := 51) rfl ?_); refine store_event (t := 3) (p := 51) (v := ?vo_w82) (w1 := (wc.setCell ⟨go64, ((ji61) : Int).toNat, none⟩ (.int .i64 0))) ?hg ?ho ?hn ?hr ?_; (case ho => rfl); (case hg => rfl); (case hn => rfl); (case hr => exact qz7); intro w82 hw; have hg : wc.grownBy w82 (some go64) := (by rw [hw]; exact HP81.2); have hp_ : Kd.R (Kd.int .i64) 3 w82 w.heap.size (fun _ => True) (.slice (some ⟨go64, 0, none⟩) x426002_1.length co64) y445 := (by rw [hw, Ny445.out]; exact HP81.1); clear HP81; replace BK417 := aM (blk_grown (bk_ BK417.out) hg (Kd.R_ne HO_426002.out BK417.out (by decide))); replace BK425 := aM (blk_grown (bk_ BK425.out) hg (Kd.R_ne HO_426002.out BK425.out (by decide))); replace HI0 := aM (IsS113.grown qz4 hg (IsS113.own_ne HI0.out HO_426002.out (by decide))); replace HB := aM ((by rw [hw]; exact below_set (HB.out) (Nat.le_trans HL.out GB64.out) : Below w0.heap.size w0 w82)); replace HK := aM (KeepBut.trans qz3 (KeepBut.of_grown hg g) (Kd.R_base2 HO_426002.out)); replace HO_426002 := aM (hp_); clear hg hw hp_; obtain ⟨hcz83_0, hcz83_1, hcz83_2, hfz83_0, hfz83_1, hfz83_2⟩ := b6_ BK425.out) | ((with_reducible refine gate_callee (f := 109) rfl ?_); refine goesL_ (some 53) rfl rfl Try.func109 (by kernel_rfl) rfl #[.agg #[.int .i64 (wrap64 (2 + t427)), .int .i64 (wrap64 (2 + t430)), .slice (some ⟨go64, 0, none⟩) y445.length co64]] rfl qz15 ?_; (with_reducible refine (spec_Sound.calls kj42 (wrap64 (2 + t427)) (wrap64 (2 + t430)) _ _ y445 false _ ?side1 ?side2 A65.out).mono ?_); (case side1 => repeat (first | exact (Kd.R_reads' HO_426002.out).2.2 | (with_reducible refine Kd.C_alloc ?_ _) | (with_reducible refine Kd.C_drewN ?_ _) | (with_reducible refine Kd.C_drew ?_))); (case side2 => rw [show y445.length = x426002_1.length from (Kd.R_reads' HO_426002.out).1.symm]; exact (Kd.R_reads' HO_426002.out).2.1); rintro e w84 ⟨rfl, hb⟩; refine ⟨_, rfl, ?_⟩; replace HO_426002 := aM (Kd.R_below (rr_ HO_426002.out) hb); replace BK417 := bB_ BK417 hb; replace BK425 := bB_ BK425 hb; replace HK := aM (KeepBut.trans qz3 (KeepBut.of_below hb g none) (.inl rfl)); replace HB := bS_ hb; replace HI0 := aM (IsS113.below qz4 hb); (try clear hb); obtain ⟨hcz85_0, hcz85_1, hcz85_2, hfz85_0, hfz85_1, hfz85_2⟩ := b6_ BK425.out; have p77 : 0 ≤ ((ji61) : Int) := dt_; have q77 : ((ji61) : Int) < ((x426002_1.length : Int) : Int) := dt_; obtain ⟨hx77_0, hf77_0⟩ := Kd.R_celln 0 HO_426002.out ((ji61) : Int) p77 q77; replace p77 := eq_true p77; replace q77 := eq_true q77; obtain ⟨hy86_, hz86_⟩ := Kd.R_celln 0 HO_426002.out ((ji61) : Int) (dt_) (dt_); have HP86 := Kd.R_putg HO_426002.out ((ji61) : Int) 1) | ((with_reducible refine gate_store (t := 3) (p := 60) rfl ?_); refine store_event (t := 3) (p := 60) (v := ?vo_w87) (w1 := (w84.setCell ⟨go64, ((ji61) : Int).toNat, none⟩ (.int .i64 1))) ?hg ?ho ?hn ?hr ?_; (case ho => rfl); (case hg => rfl); (case hn => rfl); (case hr => exact qz7); intro w87 hw; have hg : w84.grownBy w87 (some go64) := (by rw [hw]; exact HP86.2); have hp_ : Kd.R (Kd.int .i64) 3 w87 w.heap.size (fun _ => True) (.slice (some ⟨go64, 0, none⟩) x426002_1.length co64) y447 := (by rw [hw, Ny447.out]; exact HP86.1); clear HP86; replace BK417 := aM (blk_grown (bk_ BK417.out) hg (Kd.R_ne HO_426002.out BK417.out (by decide))); replace BK425 := aM (blk_grown (bk_ BK425.out) hg (Kd.R_ne HO_426002.out BK425.out (by decide))); replace HI0 := aM (IsS113.grown qz4 hg (IsS113.own_ne HI0.out HO_426002.out (by decide))); replace HB := aM ((by rw [hw]; exact below_set (HB.out) (Nat.le_trans HL.out GB64.out) : Below w0.heap.size w0 w87)); replace HK := aM (KeepBut.trans qz3 (KeepBut.of_grown hg g) (Kd.R_base2 HO_426002.out)); replace HO_426002 := aM (hp_); clear hg hw hp_; obtain ⟨hcz88_0, hcz88_1, hcz88_2, hfz88_0, hfz88_1, hfz88_2⟩ := b6_ BK425.out; have hnb89 := NB417_0.out; have hnc89 := NB0_417.out; obtain ⟨hcz90_0, hcz90_1, hcz90_2, hfz90_0, hfz90_1, hfz90_2⟩ := b6_ BK417.out))
 refine bodyPost_ret (results_cell_row rfl _ _ gb417 43 #[.int .i64 (wrap64 (2 + t427)), .int .i64 (wrap64 (2 + t430)), .slice (some ⟨go64, 0, none⟩) x426002_1.length co64] (0, 0) _ rfl (by (with_reducible repeat (first | refine blk_drewN ?_ _ | refine blk_drew ?_ | refine blk_alloc ?_ _)); refine blk_put (cs := #[.int .i64 (wrap64 (2 + t427)), .int .i64 (wrap64 (2 + t430)), .slice none 0 0]) ?_ 2 _ rfl; (with_reducible repeat (first | refine blk_drewN ?_ _ | refine blk_drew ?_ | refine blk_alloc ?_ _)); refine blk_put (cs := #[.int .i64 (wrap64 (2 + t427)), .int .i64 0, .slice none 0 0]) ?_ 1 _ rfl; (with_reducible repeat (first | refine blk_drewN ?_ _ | refine blk_drew ?_ | refine blk_alloc ?_ _)); refine blk_put (cs := #[.int .i64 0, .int .i64 0, .slice none 0 0]) ?_ 0 _ rfl; exact bk_ BK417.out) Try.underlying43 rfl (by kernel_rfl)) rfl ?_
 exact ⟨_, by first | rfl | (simp [errW_none, errW_some] <;> rfl) | (simp only [← hji61]; first | rfl | (simp [errW_none, errW_some] <;> rfl)) | (simp [*, errW_none, errW_some] <;> rfl), by (with_reducible repeat (first | apply Kd.R_alloc | apply Kd.R_drewN | apply Kd.R_drew)); exact Kd.R_mono (Kd.R_far (p := ⟨gb417, 2, none⟩) (Kd.R_far (p := ⟨gb417, 1, none⟩) (Kd.R_far (p := ⟨gb417, 0, none⟩) (Kd.R_types HO_426002.out BK417.out (by decide)) (fun _ hk => hk.2) (.int .i64 (wrap64 (2 + t427)))) (fun _ hk => hk.2) (.int .i64 (wrap64 (2 + t430)))) (fun _ hk => hk.2) (.slice (some ⟨go64, 0, none⟩) x426002_1.length co64)) (fun _ hk => trivial), qz4, qz1, qz3⟩
 }
 }
 {
 simp only [Option.some.injEq, Prod.mk.injEq] at H
 obtain ⟨rfl, rfl, rfl, rfl, rfl⟩ := H
 have hnb91 := NB425_417.out
 have hnc91 := NB417_425.out
 have hnb92 := NB425_0.out
 have hnc92 := NB0_425.out
 obtain ⟨hcz93_0, hcz93_1, hcz93_2, hfz93_0, hfz93_1, hfz93_2⟩ := b6_ BK425.out
 have hnb94 := NB417_0.out
 have hnc94 := NB0_417.out
 obtain ⟨hcz95_0, hcz95_1, hcz95_2, hfz95_0, hfz95_1, hfz95_2⟩ := b6_ BK417.out
 obtain ⟨Ao96, co96, eo96⟩ := Kd.R_slice HO_426002.out
 subst eo96
 go_wp2
 refine bodyPost_ret (results_cell_row rfl _ _ gb417 43 #[.int .i64 (wrap64 (2 + t427)), .int .i64 (wrap64 (2 + t430)), .slice Ao96 x426002_1.length co96] (0, 0) _ rfl (by (with_reducible repeat (first | refine blk_drewN ?_ _ | refine blk_drew ?_ | refine blk_alloc ?_ _)); refine blk_put (cs := #[.int .i64 (wrap64 (2 + t427)), .int .i64 (wrap64 (2 + t430)), .slice none 0 0]) ?_ 2 _ rfl; (with_reducible repeat (first | refine blk_drewN ?_ _ | refine blk_drew ?_ | refine blk_alloc ?_ _)); refine blk_put (cs := #[.int .i64 (wrap64 (2 + t427)), .int .i64 0, .slice none 0 0]) ?_ 1 _ rfl; (with_reducible repeat (first | refine blk_drewN ?_ _ | refine blk_drew ?_ | refine blk_alloc ?_ _)); refine blk_put (cs := #[.int .i64 0, .int .i64 0, .slice none 0 0]) ?_ 0 _ rfl; exact bk_ BK417.out) Try.underlying43 rfl (by kernel_rfl)) rfl ?_
 exact ⟨_, qzw, by (with_reducible repeat (first | apply Kd.R_alloc | apply Kd.R_drewN | apply Kd.R_drew)); exact Kd.R_mono (Kd.R_far (p := ⟨gb417, 2, none⟩) (Kd.R_far (p := ⟨gb417, 1, none⟩) (Kd.R_far (p := ⟨gb417, 0, none⟩) (Kd.R_types HO_426002.out BK417.out (by decide)) (fun _ hk => hk.2) (.int .i64 (wrap64 (2 + t427)))) (fun _ hk => hk.2) (.int .i64 (wrap64 (2 + t430)))) (fun _ hk => hk.2) (.slice Ao96 x426002_1.length co96)) (fun _ hk => trivial), qz4, qz1, qz3⟩
 }
 }
 }
end Go.Proofs.Ytankmdbbgepmbaa.PFnLively
