-- Made by a program of this session out of the translation. Lean checks it.
import Derived.Test.YtankmdbbgepmbaaPFnFirstx9
import Derived.Test.YtankmdbbgepmbaaPFnFirstx11
namespace Go.Proofs.Ytankmdbbgepmbaa.PFnFirst
open Go.RowKit Go.Proofs.YtankmdbbgepmbaaW.PrintWords Go.Proofs.YtankmdbbgepmbaaW.PrintLast Go.Proofs.YtankmdbbgepmbaaW.PrintMore
attribute [local go_sem] max2_int min2_int max_two min_two max_three min_three max_four min_four   -- for this text's walks alone
set_option linter.unusedVariables false
set_option linter.unusedSimpArgs false

/-! ### spec_ParseFloor: function 106 -/
mutual
def spec_ParseFloor.l0 : Nat → List ByteArray → Int → Int → Int → List Int → Option (Int × Int × List Int × Int)
 | 0, _, _, _, _, _ => none
 | k + 1, x4, x6, x255000, x255001, x255002 => if x6 < (x4.length : Int) then (if x6 = (wrap64 ((x4.length : Int) - 1)) then (if 0 ≤ x6 then (if (rdOf ByteArray.empty x4 x6).toList = ([] : List UInt8) then (spec_ParseFloor.j1 k x4 x6 (x6 == (wrap64 ((x4.length : Int) - 1))) (decide (x6 > 0)) x255000 x255001 x255002) else (spec_ParseFloor.j1 k x4 x6 (x6 == (wrap64 ((x4.length : Int) - 1))) false x255000 x255001 x255002)) else (none)) else (spec_ParseFloor.j1 k x4 x6 (x6 == (wrap64 ((x4.length : Int) - 1))) false x255000 x255001 x255002)) else (some (x255000, x255001, x255002, (-1)))
def spec_ParseFloor.j1 : Nat → List ByteArray → Int → Bool → Bool → Int → Int → List Int → Option (Int × Int × List Int × Int)
 | 0, _, _, _, _, _, _, _ => none
 | k + 1, x4, x6, x7, x39, x255000, x255001, x255002 => if x39 = true then (some (x255000, x255001, x255002, (-1))) else (if x7 = true then (spec_ParseFloor.j2 k x4 x6 true x255000 x255001 x255002) else (if x6 = 10 then (spec_ParseFloor.j2 k x4 x6 true x255000 x255001 x255002) else (if 0 ≤ x6 then (if x6 < (x4.length : Int) then ((spec_l1In.f ((rdOf ByteArray.empty x4 x6).size : Int) 1 10).bind fun t257 => (if t257 = true then (spec_ParseFloor.j2 k x4 x6 (((rdOf ByteArray.empty x4 x6).size : Int) != x255000) x255000 x255001 x255002) else (spec_ParseFloor.j2 k x4 x6 true x255000 x255001 x255002))) else (none)) else (none))))
def spec_ParseFloor.j2 : Nat → List ByteArray → Int → Bool → Int → Int → List Int → Option (Int × Int × List Int × Int)
 | 0, _, _, _, _, _, _ => none
 | k + 1, x4, x6, x63, x255000, x255001, x255002 => if x63 = true then (some (0, 0, ([] : List Int), x6)) else (spec_ParseFloor.l1 k x4 x6 0 x255000 x255001 x255002)
def spec_ParseFloor.l1 : Nat → List ByteArray → Int → Int → Int → Int → List Int → Option (Int × Int × List Int × Int)
 | 0, _, _, _, _, _, _ => none
 | k + 1, x4, x6, x8, x255000, x255001, x255002 => if 0 ≤ x6 then (if x6 < (x4.length : Int) then (if x8 < ((rdOf ByteArray.empty x4 x6).size : Int) then (if 0 ≤ x8 then ((spec_l1Mark.f k (bt (rdOf ByteArray.empty x4 x6) x8)).bind fun t261 => (if t261 < 0 then (some (0, 0, ([] : List Int), x6)) else (if x255002.length < 17592186044416 then (spec_ParseFloor.l1 k x4 x6 (wrap64 (x8 + 1)) x255000 x255001 (x255002 ++ [t261])) else (none)))) else (none)) else (spec_ParseFloor.l0 k x4 (wrap64 (x6 + 1)) x255000 (wrap64 (x255001 + 1)) x255002)) else (none)) else (none)
end
def spec_ParseFloor.f (k : Nat) (a0 : ByteArray) : Option (Int × Int × List Int × Int) := (spec_l1Split.f k a0 10).bind fun t250 => (if 0 < (t250.length : Int) then (spec_ParseFloor.l0 k t250 0 ((rdOf ByteArray.empty t250 0).size : Int) 0 ([] : List Int)) else (none))
theorem spec_ParseFloor.mono_l : ∀ k, (∀ y0 y1 y2 y3 y4, LeO (spec_ParseFloor.l0 k y0 y1 y2 y3 y4) (spec_ParseFloor.l0 (k + 1) y0 y1 y2 y3 y4)) ∧ (∀ y0 y1 y2 y3 y4 y5 y6, LeO (spec_ParseFloor.j1 k y0 y1 y2 y3 y4 y5 y6) (spec_ParseFloor.j1 (k + 1) y0 y1 y2 y3 y4 y5 y6)) ∧ (∀ y0 y1 y2 y3 y4 y5, LeO (spec_ParseFloor.j2 k y0 y1 y2 y3 y4 y5) (spec_ParseFloor.j2 (k + 1) y0 y1 y2 y3 y4 y5)) ∧ (∀ y0 y1 y2 y3 y4 y5, LeO (spec_ParseFloor.l1 k y0 y1 y2 y3 y4 y5) (spec_ParseFloor.l1 (k + 1) y0 y1 y2 y3 y4 y5))
 | 0 => ⟨fun _ _ _ _ _ r h => by simp [spec_ParseFloor.l0] at h, fun _ _ _ _ _ _ _ r h => by simp [spec_ParseFloor.j1] at h, fun _ _ _ _ _ _ r h => by simp [spec_ParseFloor.j2] at h, fun _ _ _ _ _ _ r h => by simp [spec_ParseFloor.l1] at h⟩
 | k + 1 => by
  obtain ⟨ih0, ih1, ih2, ih3⟩ := spec_ParseFloor.mono_l k
  refine ⟨?_, ?_, ?_, ?_⟩
  {
  intro y0 y1 y2 y3 y4
  unfold spec_ParseFloor.l0
  have j0 := @spec_l1Mark.mono
  have j1 := @spec_l1Split.mono
  exact qL
  }
  {
  intro y0 y1 y2 y3 y4 y5 y6
  unfold spec_ParseFloor.j1
  have j0 := @spec_l1Mark.mono
  have j1 := @spec_l1Split.mono
  exact qL
  }
  {
  intro y0 y1 y2 y3 y4 y5
  unfold spec_ParseFloor.j2
  have j0 := @spec_l1Mark.mono
  have j1 := @spec_l1Split.mono
  exact qL
  }
  {
  intro y0 y1 y2 y3 y4 y5
  unfold spec_ParseFloor.l1
  have j0 := @spec_l1Mark.mono
  have j1 := @spec_l1Split.mono
  exact qL
  }
theorem spec_ParseFloor.mono : ∀ a0 k, LeO (spec_ParseFloor.f k a0) (spec_ParseFloor.f (k + 1) a0) := by
 intro a0 k
 obtain ⟨ih0, ih1, ih2, ih3⟩ := spec_ParseFloor.mono_l k
 unfold spec_ParseFloor.f
 have j0 := @spec_l1Mark.mono
 have j1 := @spec_l1Split.mono
 exact qL
set_option maxHeartbeats 8000000 in
set_option maxRecDepth 100000 in
theorem spec_ParseFloor.calls (k : Nat) (a0 : ByteArray) (r1 : Int) (r2 : Int) (r3 : List Int) (r4 : Int) (w : World) (h : spec_ParseFloor.f k a0 = some (r1, r2, r3, r4)) :
  Calls Try.prog 106 #[.string a0] w fun e w' => ∃ v2_ : Value, e = .returned (.tuple #[.agg #[.int .i64 r1, .int .i64 r2, v2_], .int .i64 r4]) ∧ Kd.R (Kd.int .i64) 3 w' w.heap.size (fun _ => True) v2_ r3 ∧ Below w.heap.size w w' := by
 have hu43 := Try.underlying43
 have HB := aM (Below.refl w.heap.size w)
 unfold spec_ParseFloor.f at h
 have H := h
 clear h
 replace H := Option.bind_eq_some_iff.mp H
 obtain ⟨t250, A20, H⟩ := H
 have A2 := aM A20
 clear A20
 replace H := iN_ H
 obtain ⟨c3, H⟩ := H
 have c3b0 := decide_eq_true c3
 have c3b1 : decide (0 < t250.length) = true := decide_eq_true (by omega)
 clear c3
 have H' := aM H
 clear H
 go_enter Try.func106, Try.ntmps106
 go_wp2_with (first | ((with_reducible refine gate_dst (N := 2) rfl ?_); (try (refine gate_guard (by rfl) ?_; dsimp only)); refine bx_ 2 #[.int .i64 0, .int .i64 0, .slice none 0 0] 43 ?_; intro gb249 hg w4 hbox hb; have BK249 := aM (hbox); have GW249 := aM (bz_ w hg qz1); have GE249 := GW249; replace HB := bS_ hb; clear hb hbox hg) | (go_at_call 126; (with_reducible refine (spec_l1Split.calls k a0 10 t250 _ A2.out).mono ?_); rintro e w5 ⟨v251, rfl, ho0, hb⟩; have HO252 := aM (Kd.R_lower ho0 (below_size qz1)); replace BK249 := bB_ BK249 hb; replace HB := bS_ hb; (try clear hb ho0); obtain ⟨Ao6, co6, eo6⟩ := Kd.R_slice HO252.out; subst eo6; have p253 : 0 ≤ (0 : Int) := (by omega); have q253 : 0 < (t250.length : Int) := dt_; obtain ⟨ad253, e253, hx253_0⟩ := Kd.at_string (Kd.R_reads' HO252.out).2.2 0 p253 q253; cases e253; have qi253 : (0 < t250.length) = True := eq_true (by omega); (try rw [show ((0 : Int)).toNat = 0 from rfl] at hx253_0); (try rw [Addr.add_zero'] at hx253_0); replace p253 := eq_true p253; replace q253 := eq_true q253) | ((with_reducible refine gate_dst (N := 5) rfl ?_); (try (refine gate_guard (by rfl) ?_; dsimp only)); refine bx_ 5 #[.int .i64 0, .int .i64 0, .slice none 0 0] 43 ?_; intro gb254 hg w7 hbox hb; replace HO252 := aM (Kd.R_below (rr_ HO252.out) hb); have BK254 := aM (hbox); have GW254 := aM (bz_ w hg qz1); have GE254 := GW254; replace HB := bS_ hb; obtain ⟨NB249_254, NB254_249⟩ := nb_ hg (bk_ BK249.out); replace BK249 := bB_ BK249 hb; clear hb hbox hg; have hnb8 := NB254_249.out; have hnc8 := NB249_254.out; obtain ⟨hcz9_0, hcz9_1, hcz9_2, hfz9_0, hfz9_1, hfz9_2⟩ := b6_ BK254.out) | go_quiet (first | (go_at_call 126; (with_reducible refine (spec_l1Split.calls k a0 10 t250 _ A2.out).mono ?_); rintro e w5 ⟨v251, rfl, ho0, hb⟩; have HO252 := aM (Kd.R_lower ho0 (below_size qz1)); replace BK249 := bB_ BK249 hb; replace HB := bS_ hb; (try clear hb ho0); obtain ⟨Ao6, co6, eo6⟩ := Kd.R_slice HO252.out; subst eo6; have p253 : 0 ≤ (0 : Int) := (by omega); have q253 : 0 < (t250.length : Int) := dt_; obtain ⟨ad253, e253, hx253_0⟩ := Kd.at_string (Kd.R_reads' HO252.out).2.2 0 p253 q253; cases e253; have qi253 : (0 < t250.length) = True := eq_true (by omega); (try rw [show ((0 : Int)).toNat = 0 from rfl] at hx253_0); (try rw [Addr.add_zero'] at hx253_0); replace p253 := eq_true p253; replace q253 := eq_true q253)))
 go_loopg [6] k (fun kq v6 w' => ∃ (x6_1 : Int) (x250000_1 : Int) (x250001_1 : Int) (x255001_1 : Int) (x255002_1 : List Int) (u255002 : Value), v6 = .int .i64 x6_1 ∧ Aside0 (spec_ParseFloor.l0 kq t250 x6_1 ((rdOf ByteArray.empty t250 0).size : Int) x255001_1 x255002_1 = some (r1, r2, r3, r4)) ∧ Aside0 (kq ≤ k) ∧ Aside0 (Kd.R Kd.string 9 w' w.heap.size (fun _ => True) (.slice (some ad253) t250.length co6) t250) ∧ Aside0 (Kd.R (Kd.int .i64) 3 w' w.heap.size (fun _ => True) u255002 x255002_1) ∧ Aside0 (w'.heap[gb249]? = some (.cells #[.int .i64 x250000_1, .int .i64 x250001_1, (.slice none 0 0)] 43 (0, 0))) ∧ Aside0 (w'.heap[gb254]? = some (.cells #[.int .i64 ((rdOf ByteArray.empty t250 0).size : Int), .int .i64 x255001_1, u255002] 43 (0, 0))) ∧ Aside0 (Below w.heap.size w w'))
 case atStart => exact ⟨(0), (0), (0), (0), (([] : List Int)), (.slice none 0 0), qz6, H', ⟨Nat.le_refl _⟩, ⟨by (with_reducible repeat (first | apply Kd.R_alloc | apply Kd.R_drewN | apply Kd.R_drew)); exact Kd.R_mono (Kd.R_far (p := ⟨gb254, 2, none⟩) (Kd.R_far (p := ⟨gb254, 1, none⟩) (Kd.R_far (p := ⟨gb254, 0, none⟩) (Kd.R_types HO252.out BK254.out (by decide)) (fun _ hk => hk.2) (.int .i64 ((rdOf ByteArray.empty t250 0).size : Int))) (fun _ hk => hk.2) (.int .i64 0)) (fun _ hk => hk.2) (.slice none 0 0)) (fun _ hk => trivial)⟩, ⟨by first | exact Kd.R_nil _ _ _ _ _ | exact Kd.N_nil _ _ _ _ _ | exact Kd.V_nil _ _ _ _ _ | exact Kd.Q_nil _ _ _ _ _ | exact Kd.S_nil _ _ _ _ _⟩, ⟨by (with_reducible repeat (first | refine blk_drewN ?_ _ | refine blk_drew ?_ | refine blk_alloc ?_ _)); refine blk_far ?_ NB249_254.out _; (with_reducible repeat (first | refine blk_drewN ?_ _ | refine blk_drew ?_ | refine blk_alloc ?_ _)); refine blk_far ?_ NB249_254.out _; (with_reducible repeat (first | refine blk_drewN ?_ _ | refine blk_drew ?_ | refine blk_alloc ?_ _)); refine blk_far ?_ NB249_254.out _; exact bk_ BK249.out⟩, ⟨by (with_reducible repeat (first | refine blk_drewN ?_ _ | refine blk_drew ?_ | refine blk_alloc ?_ _)); refine blk_put (cs := #[.int .i64 ((rdOf ByteArray.empty t250 0).size : Int), .int .i64 0, .slice none 0 0]) ?_ 2 _ rfl; (with_reducible repeat (first | refine blk_drewN ?_ _ | refine blk_drew ?_ | refine blk_alloc ?_ _)); refine blk_put (cs := #[.int .i64 ((rdOf ByteArray.empty t250 0).size : Int), .int .i64 0, .slice none 0 0]) ?_ 1 _ rfl; (with_reducible repeat (first | refine blk_drewN ?_ _ | refine blk_drew ?_ | refine blk_alloc ?_ _)); refine blk_put (cs := #[.int .i64 0, .int .i64 0, .slice none 0 0]) ?_ 0 _ rfl; exact bk_ BK254.out⟩, ⟨qz1⟩⟩
 case round =>
 clear H'
 try clear qi2
 try clear c3
 try clear c3b0
 try clear c3b1
 try clear hcz9_0 hcz9_1 hcz9_2 hfz9_0 hfz9_1 hfz9_2
 try clear hx253_0
 try clear p253
 try clear q253
 obtain ⟨x6_1, x250000_1, x250001_1, x255001_1, x255002_1, u255002, rfl, HA, HK1, HO_4, HO_255002, BK249, BK254, HB⟩ := hrel
 cases gk with
 | zero => exact absurd HA.out (by simp [spec_ParseFloor.l0])
 | succ k1 =>
 have H := HA.out
 clear HA
 simp only [spec_ParseFloor.l0] at H
 replace H := iE_ H
 rcases H with ⟨c10b0, H⟩ | ⟨c10b0, H⟩
 {
 have HC11 := aM H
 clear H
 go_upto_region 7 with (fail)
 repeat (go_quiet (fail); go_upto_region 7 with (fail))
 go_cut [7, 39] (fun v7 v39 wc => ∃ (kq : Nat) (x7_10 : Bool) (x39_10 : Bool), v7 = .bool x7_10 ∧ v39 = .bool x39_10 ∧ Aside0 (spec_ParseFloor.j1 kq t250 x6_1 x7_10 x39_10 ((rdOf ByteArray.empty t250 0).size : Int) x255001_1 x255002_1 = some (r1, r2, r3, r4)) ∧ Aside0 (kq ≤ k1) ∧ Aside0 (Kd.R Kd.string 9 wc w.heap.size (fun _ => True) (.slice (some ad253) t250.length co6) t250) ∧ Aside0 (Kd.R (Kd.int .i64) 3 wc w.heap.size (fun _ => True) u255002 x255002_1) ∧ Aside0 (wc.heap[gb249]? = some (.cells #[.int .i64 x250000_1, .int .i64 x250001_1, (.slice none 0 0)] 43 (0, 0))) ∧ Aside0 (wc.heap[gb254]? = some (.cells #[.int .i64 ((rdOf ByteArray.empty t250 0).size : Int), .int .i64 x255001_1, u255002] 43 (0, 0))) ∧ Aside0 (Below w.heap.size w wc))
 case first =>
  have H := HC11.out
  clear HC11
  replace H := iQ_ H
  rcases H with ⟨c12b0, c12b1, H⟩ | ⟨c12, c12b0, c12b1, H⟩
  {
  (first | rw [c12b0] | (simp only [i64_w, i32_w]; rw [c12b0]) | rw [@decide_eq_true _ _ (of_decide_eq_true c12b0)] | rw [@decide_eq_true _ _ (of_decide_eq_true c12b1)] | skip)
  replace H := iD_ H
  obtain ⟨c13b0, H⟩ := H
  replace H := iQ_ H
  rcases H with ⟨c14b0, c14b1, H⟩ | ⟨c14, c14b0, c14b1, H⟩
  {
  have H' := aM H
  clear H
  have p255 : (0 ≤ (x6_1 : Int)) = True := et_
  have q255 : (x6_1 < (t250.length : Int)) = True := et_
  obtain ⟨ad255, e255, hx255_0⟩ := Kd.at_string (Kd.R_reads' HO_4.out).2.2 x6_1 dt_ dt_
  obtain rfl : ad253 = ad255 := (by injection e255)
  go_wp2
  repeat (go_quiet (fail); try go_wp2)
  go_meet
  case rel => exact ⟨_, ((x6_1 == (wrap64 ((t250.length : Int) - 1)))), (decide (x6_1 > 0)), qz6, qz6, H', ⟨by have := HK1.out; first | omega | exact Nat.le_refl _⟩, ⟨rm_ HO_4.out⟩, ⟨rm_ HO_255002.out⟩, ⟨bk_ BK249.out⟩, ⟨bk_ BK254.out⟩, ⟨qz1⟩⟩
  }
  {
  have H' := aM H
  clear H
  have p255 : (0 ≤ (x6_1 : Int)) = True := et_
  have q255 : (x6_1 < (t250.length : Int)) = True := et_
  obtain ⟨ad255, e255, hx255_0⟩ := Kd.at_string (Kd.R_reads' HO_4.out).2.2 x6_1 dt_ dt_
  obtain rfl : ad253 = ad255 := (by injection e255)
  go_wp2
  repeat (go_quiet (fail); try go_wp2)
  go_meet
  case rel => exact ⟨_, ((x6_1 == (wrap64 ((t250.length : Int) - 1)))), (false), qz6, qz6, H', ⟨by have := HK1.out; first | omega | exact Nat.le_refl _⟩, ⟨rm_ HO_4.out⟩, ⟨rm_ HO_255002.out⟩, ⟨bk_ BK249.out⟩, ⟨bk_ BK254.out⟩, ⟨qz1⟩⟩
  }
  }
  {
  (first | rw [c12b0] | (simp only [i64_w, i32_w]; rw [c12b0]) | rw [@decide_eq_false _ _ (of_decide_eq_false c12b0)] | rw [@decide_eq_false _ _ (of_decide_eq_false c12b1)] | skip)
  have H' := aM H
  clear H
  go_wp2
  repeat (go_quiet (fail); try go_wp2)
  go_meet
  case rel => exact ⟨_, ((x6_1 == (wrap64 ((t250.length : Int) - 1)))), (false), qz6, qz6, H', ⟨by have := HK1.out; first | omega | exact Nat.le_refl _⟩, ⟨rm_ HO_4.out⟩, ⟨rm_ HO_255002.out⟩, ⟨bk_ BK249.out⟩, ⟨bk_ BK254.out⟩, ⟨qz1⟩⟩
  }
 case rest =>
 clear HC11
 try clear qi2
 try clear c3
 try clear c3b0
 try clear c3b1
 try clear c10
 try clear c10b0
 try clear hcz9_0 hcz9_1 hcz9_2 hfz9_0 hfz9_1 hfz9_2
 try clear hx253_0
 try clear p253
 try clear q253
 obtain ⟨kq, x7_10, x39_10, rfl, rfl, HA, HJ10, HO_4, HO_255002, BK249, BK254, HB⟩ := hcut
 cases kq with
 | zero => exact absurd HA.out (by simp [spec_ParseFloor.j1])
 | succ kj10 =>
 have H := HA.out
 clear HA
 simp only [spec_ParseFloor.j1] at H
 replace H := iB_ H
 rcases H with ⟨rfl, H⟩ | ⟨rfl, H⟩
 {
 simp only [Option.some.injEq, Prod.mk.injEq] at H
 obtain ⟨rfl, rfl, rfl, rfl⟩ := H
 have hnb16 := NB254_249.out
 have hnc16 := NB249_254.out
 obtain ⟨hcz17_0, hcz17_1, hcz17_2, hfz17_0, hfz17_1, hfz17_2⟩ := b6_ BK254.out
 obtain ⟨hcz18_0, hcz18_1, hcz18_2, hfz18_0, hfz18_1, hfz18_2⟩ := b6_ BK249.out
 obtain ⟨Ao19, co19, eo19⟩ := Kd.R_slice HO_255002.out
 subst eo19
 go_wp2
 repeat (go_quiet (fail); try go_wp2)
 refine bodyPost_ret (results_ct rfl _ _ gb249 43 #[.int .i64 ((rdOf ByteArray.empty t250 0).size : Int), .int .i64 x255001_1, .slice Ao19 x255002_1.length co19] (0, 0) _ rfl (by (with_reducible repeat (first | refine blk_drewN ?_ _ | refine blk_drew ?_ | refine blk_alloc ?_ _)); refine blk_put (cs := #[.int .i64 ((rdOf ByteArray.empty t250 0).size : Int), .int .i64 x255001_1, .slice none 0 0]) ?_ 2 _ rfl; (with_reducible repeat (first | refine blk_drewN ?_ _ | refine blk_drew ?_ | refine blk_alloc ?_ _)); refine blk_put (cs := #[.int .i64 ((rdOf ByteArray.empty t250 0).size : Int), .int .i64 x250001_1, .slice none 0 0]) ?_ 1 _ rfl; (with_reducible repeat (first | refine blk_drewN ?_ _ | refine blk_drew ?_ | refine blk_alloc ?_ _)); refine blk_put (cs := #[.int .i64 x250000_1, .int .i64 x250001_1, .slice none 0 0]) ?_ 0 _ rfl; exact bk_ BK249.out) Try.underlying43 rfl (by kernel_rfl)) rfl ?_
 exact ⟨_, qzw, by (with_reducible repeat (first | apply Kd.R_alloc | apply Kd.R_drewN | apply Kd.R_drew)); exact Kd.R_mono (Kd.R_far (p := ⟨gb249, 2, none⟩) (Kd.R_far (p := ⟨gb249, 1, none⟩) (Kd.R_far (p := ⟨gb249, 0, none⟩) (Kd.R_types HO_255002.out BK249.out (by decide)) (fun _ hk => hk.2) (.int .i64 ((rdOf ByteArray.empty t250 0).size : Int))) (fun _ hk => hk.2) (.int .i64 x255001_1)) (fun _ hk => hk.2) (.slice Ao19 x255002_1.length co19)) (fun _ hk => trivial), qz1⟩
 }
 {
 have HC20 := aM H
 clear H
 go_upto_region 8 with (fail)
 repeat (go_quiet (fail); go_upto_region 8 with (fail))
 go_cut [63] (fun v63 wc => ∃ (kq : Nat) (x63_19 : Bool), v63 = .bool x63_19 ∧ Aside0 (spec_ParseFloor.j2 kq t250 x6_1 x63_19 ((rdOf ByteArray.empty t250 0).size : Int) x255001_1 x255002_1 = some (r1, r2, r3, r4)) ∧ Aside0 (kq ≤ kj10) ∧ Aside0 (Kd.R Kd.string 9 wc w.heap.size (fun _ => True) (.slice (some ad253) t250.length co6) t250) ∧ Aside0 (Kd.R (Kd.int .i64) 3 wc w.heap.size (fun _ => True) u255002 x255002_1) ∧ Aside0 (wc.heap[gb249]? = some (.cells #[.int .i64 x250000_1, .int .i64 x250001_1, (.slice none 0 0)] 43 (0, 0))) ∧ Aside0 (wc.heap[gb254]? = some (.cells #[.int .i64 ((rdOf ByteArray.empty t250 0).size : Int), .int .i64 x255001_1, u255002] 43 (0, 0))) ∧ Aside0 (Below w.heap.size w wc))
 case first =>
  have H := HC20.out
  clear HC20
  replace H := iB_ H
  rcases H with ⟨rfl, H⟩ | ⟨rfl, H⟩
  {
  have H' := aM H
  clear H
  go_wp2
  repeat (go_quiet (fail); try go_wp2)
  go_meet
  case rel => exact ⟨_, (true), qz6, H', ⟨by have := HK1.out; have := HJ10.out; first | omega | exact Nat.le_refl _⟩, ⟨rm_ HO_4.out⟩, ⟨rm_ HO_255002.out⟩, ⟨bk_ BK249.out⟩, ⟨bk_ BK254.out⟩, ⟨qz1⟩⟩
  }
  {
  replace H := iQ_ H
  rcases H with ⟨c22b0, c22b1, H⟩ | ⟨c22, c22b0, c22b1, H⟩
  {
  (first | rw [c22b0] | (simp only [i64_w, i32_w]; rw [c22b0]) | rw [@decide_eq_true _ _ (of_decide_eq_true c22b0)] | rw [@decide_eq_true _ _ (of_decide_eq_true c22b1)] | skip)
  have H' := aM H
  clear H
  go_wp2
  repeat (go_quiet (fail); try go_wp2)
  go_meet
  case rel => exact ⟨_, (true), qz6, H', ⟨by have := HK1.out; have := HJ10.out; first | omega | exact Nat.le_refl _⟩, ⟨rm_ HO_4.out⟩, ⟨rm_ HO_255002.out⟩, ⟨bk_ BK249.out⟩, ⟨bk_ BK254.out⟩, ⟨qz1⟩⟩
  }
  {
  (first | rw [c22b0] | (simp only [i64_w, i32_w]; rw [c22b0]) | rw [@decide_eq_false _ _ (of_decide_eq_false c22b0)] | rw [@decide_eq_false _ _ (of_decide_eq_false c22b1)] | skip)
  replace H := iD_ H
  obtain ⟨c23b0, H⟩ := H
  replace H := iD_ H
  obtain ⟨c24b0, H⟩ := H
  replace H := Option.bind_eq_some_iff.mp H
  obtain ⟨t257, A250, H⟩ := H
  have A25 := aM A250
  clear A250
  replace H := iB_ H
  rcases H with ⟨rfl, H⟩ | ⟨rfl, H⟩
  {
  have H' := aM H
  clear H
  have p256 : (0 ≤ (x6_1 : Int)) = True := et_
  have q256 : (x6_1 < (t250.length : Int)) = True := et_
  obtain ⟨ad256, e256, hx256_0⟩ := Kd.at_string (Kd.R_reads' HO_4.out).2.2 x6_1 dt_ dt_
  obtain rfl : ad253 = ad256 := (by injection e256)
  go_wp2_with (first | (go_at_call 98; (with_reducible refine (spec_l1In.calls ((rdOf ByteArray.empty t250 x6_1).size : Int) 1 10 true _ A25.out).mono ?_); rintro e w' ⟨rfl, ⟨nd, rfl⟩⟩; (try first | exact ⟨rfl, _, World.drewN_drewN _ _ _⟩ | exact ⟨rfl, _, Eq.trans (World.drewN_drewN _ _ _) (congrArg (World.drewN _) (Nat.add_assoc _ _ _))⟩); have p258 : 0 ≤ (x6_1 : Int) := dt_; have q258 : x6_1 < (t250.length : Int) := dt_; obtain ⟨ad258, e258, hx258_0⟩ := Kd.at_string (Kd.R_reads' HO_4.out).2.2 x6_1 p258 q258; obtain rfl : ad253 = ad258 := (by injection e258); replace p258 := eq_true p258; replace q258 := eq_true q258; have hnb27 := NB254_249.out; have hnc27 := NB249_254.out; obtain ⟨hcz28_0, hcz28_1, hcz28_2, hfz28_0, hfz28_1, hfz28_2⟩ := b6_ BK254.out) | go_quiet (first | (go_at_call 98; (with_reducible refine (spec_l1In.calls ((rdOf ByteArray.empty t250 x6_1).size : Int) 1 10 true _ A25.out).mono ?_); rintro e w' ⟨rfl, ⟨nd, rfl⟩⟩; (try first | exact ⟨rfl, _, World.drewN_drewN _ _ _⟩ | exact ⟨rfl, _, Eq.trans (World.drewN_drewN _ _ _) (congrArg (World.drewN _) (Nat.add_assoc _ _ _))⟩); have p258 : 0 ≤ (x6_1 : Int) := dt_; have q258 : x6_1 < (t250.length : Int) := dt_; obtain ⟨ad258, e258, hx258_0⟩ := Kd.at_string (Kd.R_reads' HO_4.out).2.2 x6_1 p258 q258; obtain rfl : ad253 = ad258 := (by injection e258); replace p258 := eq_true p258; replace q258 := eq_true q258; have hnb27 := NB254_249.out; have hnc27 := NB249_254.out; obtain ⟨hcz28_0, hcz28_1, hcz28_2, hfz28_0, hfz28_1, hfz28_2⟩ := b6_ BK254.out)))
  go_meet
  case rel => exact ⟨_, ((((rdOf ByteArray.empty t250 x6_1).size : Int) != ((rdOf ByteArray.empty t250 0).size : Int))), qz6, H', ⟨by have := HK1.out; have := HJ10.out; first | omega | exact Nat.le_refl _⟩, ⟨rm_ HO_4.out⟩, ⟨rm_ HO_255002.out⟩, ⟨bk_ BK249.out⟩, ⟨bk_ BK254.out⟩, ⟨qz1⟩⟩
  }
  {
  have H' := aM H
  clear H
  have p256 : (0 ≤ (x6_1 : Int)) = True := et_
  have q256 : (x6_1 < (t250.length : Int)) = True := et_
  obtain ⟨ad256, e256, hx256_0⟩ := Kd.at_string (Kd.R_reads' HO_4.out).2.2 x6_1 dt_ dt_
  obtain rfl : ad253 = ad256 := (by injection e256)
  go_wp2_with (first | (go_at_call 98; (with_reducible refine (spec_l1In.calls ((rdOf ByteArray.empty t250 x6_1).size : Int) 1 10 false _ A25.out).mono ?_); rintro e w' ⟨rfl, ⟨nd, rfl⟩⟩; (try first | exact ⟨rfl, _, World.drewN_drewN _ _ _⟩ | exact ⟨rfl, _, Eq.trans (World.drewN_drewN _ _ _) (congrArg (World.drewN _) (Nat.add_assoc _ _ _))⟩)) | go_quiet (first | (go_at_call 98; (with_reducible refine (spec_l1In.calls ((rdOf ByteArray.empty t250 x6_1).size : Int) 1 10 false _ A25.out).mono ?_); rintro e w' ⟨rfl, ⟨nd, rfl⟩⟩; (try first | exact ⟨rfl, _, World.drewN_drewN _ _ _⟩ | exact ⟨rfl, _, Eq.trans (World.drewN_drewN _ _ _) (congrArg (World.drewN _) (Nat.add_assoc _ _ _))⟩))))
  go_meet
  case rel => exact ⟨_, (true), qz6, H', ⟨by have := HK1.out; have := HJ10.out; first | omega | exact Nat.le_refl _⟩, ⟨rm_ HO_4.out⟩, ⟨rm_ HO_255002.out⟩, ⟨bk_ BK249.out⟩, ⟨bk_ BK254.out⟩, ⟨qz1⟩⟩
  }
  }
  }
 case rest =>
 clear HC20
 try clear qi2
 try clear c3
 try clear c3b0
 try clear c3b1
 try clear c10
 try clear c10b0
 try clear c15
 try clear qi25
 try clear hcz9_0 hcz9_1 hcz9_2 hfz9_0 hfz9_1 hfz9_2
 try clear hx253_0
 try clear p253
 try clear q253
 obtain ⟨kq, x63_19, rfl, HA, HJ19, HO_4, HO_255002, BK249, BK254, HB⟩ := hcut
 cases kq with
 | zero => exact absurd HA.out (by simp [spec_ParseFloor.j2])
 | succ kj19 =>
 have H := HA.out
 clear HA
 simp only [spec_ParseFloor.j2] at H
 replace H := iB_ H
 rcases H with ⟨rfl, H⟩ | ⟨rfl, H⟩
 {
 simp only [Option.some.injEq, Prod.mk.injEq] at H
 obtain ⟨rfl, rfl, rfl, rfl⟩ := H
 have hnb30 := NB249_254.out
 have hnc30 := NB254_249.out
 obtain ⟨hcz31_0, hcz31_1, hcz31_2, hfz31_0, hfz31_1, hfz31_2⟩ := b6_ BK249.out
 go_wp2
 repeat (go_quiet (fail); try go_wp2)
 refine bodyPost_ret (results_ct rfl _ _ gb249 43 #[.int .i64 0, .int .i64 0, .slice none 0 0] (0, 0) _ rfl (by (with_reducible repeat (first | refine blk_drewN ?_ _ | refine blk_drew ?_ | refine blk_alloc ?_ _)); refine blk_put (cs := #[.int .i64 0, .int .i64 0, .slice none 0 0]) ?_ 2 _ rfl; (with_reducible repeat (first | refine blk_drewN ?_ _ | refine blk_drew ?_ | refine blk_alloc ?_ _)); refine blk_put (cs := #[.int .i64 0, .int .i64 x250001_1, .slice none 0 0]) ?_ 1 _ rfl; (with_reducible repeat (first | refine blk_drewN ?_ _ | refine blk_drew ?_ | refine blk_alloc ?_ _)); refine blk_put (cs := #[.int .i64 x250000_1, .int .i64 x250001_1, .slice none 0 0]) ?_ 0 _ rfl; exact bk_ BK249.out) Try.underlying43 rfl (by kernel_rfl)) rfl ?_
 exact ⟨_, qzw, by first | exact Kd.R_nil _ _ _ _ _ | exact Kd.N_nil _ _ _ _ _ | exact Kd.V_nil _ _ _ _ _ | exact Kd.Q_nil _ _ _ _ _ | exact Kd.S_nil _ _ _ _ _, qz1⟩
 }
 {
 have H' := aM H
 clear H
 go_wp2
 repeat (go_quiet (fail); try go_wp2)
 go_loopg [8] kj19 (fun kq v8 w' => ∃ (x8_4 : Int) (x250000_4 : Int) (x250001_4 : Int) (x255002_4 : List Int) (u255002 : Value), v8 = .int .i64 x8_4 ∧ Aside0 (spec_ParseFloor.l1 kq t250 x6_1 x8_4 ((rdOf ByteArray.empty t250 0).size : Int) x255001_1 x255002_4 = some (r1, r2, r3, r4)) ∧ Aside0 (kq ≤ kj19) ∧ Aside0 (Kd.R Kd.string 9 w' w.heap.size (fun _ => True) (.slice (some ad253) t250.length co6) t250) ∧ Aside0 (Kd.R (Kd.int .i64) 3 w' w.heap.size (fun _ => True) u255002 x255002_4) ∧ Aside0 (w'.heap[gb249]? = some (.cells #[.int .i64 x250000_4, .int .i64 x250001_4, (.slice none 0 0)] 43 (0, 0))) ∧ Aside0 (w'.heap[gb254]? = some (.cells #[.int .i64 ((rdOf ByteArray.empty t250 0).size : Int), .int .i64 x255001_1, u255002] 43 (0, 0))) ∧ Aside0 (Below w.heap.size w w'))
 case atStart => exact ⟨(0), (x250000_1), (x250001_1), (x255002_1), (u255002), qz6, H', ⟨Nat.le_refl _⟩, ⟨rr_ HO_4.out⟩, ⟨rr_ HO_255002.out⟩, ⟨bk_ BK249.out⟩, ⟨bk_ BK254.out⟩, ⟨qz1⟩⟩
 case round =>
 clear H'
 try clear qi2
 try clear c3
 try clear c3b0
 try clear c3b1
 try clear c10
 try clear c10b0
 try clear c15
 try clear qi25
 try clear c29
 try clear hcz9_0 hcz9_1 hcz9_2 hfz9_0 hfz9_1 hfz9_2
 try clear hx253_0
 try clear p253
 try clear q253
 obtain ⟨x8_4, x250000_4, x250001_4, x255002_4, u255002, rfl, HA, HK4, HO_4, HO_255002, BK249, BK254, HB⟩ := hrel
 cases gk with
 | zero => exact absurd HA.out (by simp [spec_ParseFloor.l1])
 | succ k4 =>
 have H := HA.out
 clear HA
 simp only [spec_ParseFloor.l1] at H
 replace H := iD_ H
 obtain ⟨c32b0, H⟩ := H
 replace H := iD_ H
 obtain ⟨c33b0, H⟩ := H
 replace H := iE_ H
 rcases H with ⟨c34b0, H⟩ | ⟨c34b0, H⟩
 {
 replace H := iD_ H
 obtain ⟨c35b0, H⟩ := H
 replace H := Option.bind_eq_some_iff.mp H
 obtain ⟨t261, A370, H⟩ := H
 have A37 := aM A370
 clear A370
 replace H := iE_ H
 rcases H with ⟨c38b0, H⟩ | ⟨c38b0, H⟩
 {
 simp only [Option.some.injEq, Prod.mk.injEq] at H
 obtain ⟨rfl, rfl, rfl, rfl⟩ := H
 have p259 : (0 ≤ (x6_1 : Int)) = True := et_
 have q259 : (x6_1 < (t250.length : Int)) = True := et_
 obtain ⟨ad259, e259, hx259_0⟩ := Kd.at_string (Kd.R_reads' HO_4.out).2.2 x6_1 dt_ dt_
 obtain rfl : ad253 = ad259 := (by injection e259)
 have p260 : (0 ≤ (x6_1 : Int)) = True := et_
 have q260 : (x6_1 < (t250.length : Int)) = True := et_
 obtain ⟨ad260, e260, hx260_0⟩ := Kd.at_string (Kd.R_reads' HO_4.out).2.2 x6_1 dt_ dt_
 obtain rfl : ad253 = ad260 := (by injection e260)
 have p36 : 0 ≤ (x8_4 : Int) := dt_
 have q36 : x8_4 < ((rdOf ByteArray.empty t250 x6_1).size : Int) := dt_
 have hx36 := bt_at (rdOf ByteArray.empty t250 x6_1) x8_4
 replace p36 := eq_true p36
 replace q36 := eq_true q36
 go_wp2_with (first | (go_at_call 127; (with_reducible refine (spec_l1Mark.calls k4 (bt (rdOf ByteArray.empty t250 x6_1) x8_4) t261 _ A37.out).mono ?_); rintro e w' ⟨rfl, ⟨nd, rfl⟩⟩; (try first | exact ⟨rfl, _, World.drewN_drewN _ _ _⟩ | exact ⟨rfl, _, Eq.trans (World.drewN_drewN _ _ _) (congrArg (World.drewN _) (Nat.add_assoc _ _ _))⟩); have hnb39 := NB249_254.out; have hnc39 := NB254_249.out; obtain ⟨hcz40_0, hcz40_1, hcz40_2, hfz40_0, hfz40_1, hfz40_2⟩ := b6_ BK249.out) | go_quiet (first | (go_at_call 127; (with_reducible refine (spec_l1Mark.calls k4 (bt (rdOf ByteArray.empty t250 x6_1) x8_4) t261 _ A37.out).mono ?_); rintro e w' ⟨rfl, ⟨nd, rfl⟩⟩; (try first | exact ⟨rfl, _, World.drewN_drewN _ _ _⟩ | exact ⟨rfl, _, Eq.trans (World.drewN_drewN _ _ _) (congrArg (World.drewN _) (Nat.add_assoc _ _ _))⟩); have hnb39 := NB249_254.out; have hnc39 := NB254_249.out; obtain ⟨hcz40_0, hcz40_1, hcz40_2, hfz40_0, hfz40_1, hfz40_2⟩ := b6_ BK249.out)))
 refine bodyPost_ret (results_ct rfl _ _ gb249 43 #[.int .i64 0, .int .i64 0, .slice none 0 0] (0, 0) _ rfl (by (with_reducible repeat (first | refine blk_drewN ?_ _ | refine blk_drew ?_ | refine blk_alloc ?_ _)); refine blk_put (cs := #[.int .i64 0, .int .i64 0, .slice none 0 0]) ?_ 2 _ rfl; (with_reducible repeat (first | refine blk_drewN ?_ _ | refine blk_drew ?_ | refine blk_alloc ?_ _)); refine blk_put (cs := #[.int .i64 0, .int .i64 x250001_4, .slice none 0 0]) ?_ 1 _ rfl; (with_reducible repeat (first | refine blk_drewN ?_ _ | refine blk_drew ?_ | refine blk_alloc ?_ _)); refine blk_put (cs := #[.int .i64 x250000_4, .int .i64 x250001_4, .slice none 0 0]) ?_ 0 _ rfl; exact bk_ BK249.out) Try.underlying43 rfl (by kernel_rfl)) rfl ?_
 exact ⟨_, qzw, by first | exact Kd.R_nil _ _ _ _ _ | exact Kd.N_nil _ _ _ _ _ | exact Kd.V_nil _ _ _ _ _ | exact Kd.Q_nil _ _ _ _ _ | exact Kd.S_nil _ _ _ _ _, qz1⟩
 }
 {
 replace H := iN_ H
 obtain ⟨c41, H⟩ := H
 have LMc41 := aM c41
 clear c41
 obtain ⟨y262, hy262⟩ : ∃ y_ : List Int, y_ = (x255002_4 ++ [t261]) := ⟨_, rfl⟩
 replace H : (spec_ParseFloor.l1 k4 t250 x6_1 (wrap64 (x8_4 + 1)) ((rdOf ByteArray.empty t250 0).size : Int) x255001_1 y262) = some (r1, r2, r3, r4) := by first | (rw [hy262]; exact H) | exact H
 have Ny262 := aM hy262
 clear hy262
 have H' := aM H
 clear H
 have p259 : (0 ≤ (x6_1 : Int)) = True := et_
 have q259 : (x6_1 < (t250.length : Int)) = True := et_
 obtain ⟨ad259, e259, hx259_0⟩ := Kd.at_string (Kd.R_reads' HO_4.out).2.2 x6_1 dt_ dt_
 obtain rfl : ad253 = ad259 := (by injection e259)
 have p260 : (0 ≤ (x6_1 : Int)) = True := et_
 have q260 : (x6_1 < (t250.length : Int)) = True := et_
 obtain ⟨ad260, e260, hx260_0⟩ := Kd.at_string (Kd.R_reads' HO_4.out).2.2 x6_1 dt_ dt_
 obtain rfl : ad253 = ad260 := (by injection e260)
 have p36 : 0 ≤ (x8_4 : Int) := dt_
 have q36 : x8_4 < ((rdOf ByteArray.empty t250 x6_1).size : Int) := dt_
 have hx36 := bt_at (rdOf ByteArray.empty t250 x6_1) x8_4
 replace p36 := eq_true p36
 replace q36 := eq_true q36
 go_wp2_with (first | (go_at_call 127; (with_reducible refine (spec_l1Mark.calls k4 (bt (rdOf ByteArray.empty t250 x6_1) x8_4) t261 _ A37.out).mono ?_); rintro e w' ⟨rfl, ⟨nd, rfl⟩⟩; (try first | exact ⟨rfl, _, World.drewN_drewN _ _ _⟩ | exact ⟨rfl, _, Eq.trans (World.drewN_drewN _ _ _) (congrArg (World.drewN _) (Nat.add_assoc _ _ _))⟩); have hnb42 := NB254_249.out; have hnc42 := NB249_254.out; obtain ⟨hcz43_0, hcz43_1, hcz43_2, hfz43_0, hfz43_1, hfz43_2⟩ := b6_ BK254.out) | ((with_reducible refine gate_builtin (b := .append) (xs := #[.tmp 87, .tmp 89]) rfl ?_); (try (refine gate_guard (by rfl) ?_; dsimp only)); at_builtin; refine Kd.R_append (Kd.int .i64) (w0 := w) w.heap.size rfl (.tmp 87) (.tmp 89) 24 3 (.int .i64 0) 8 rfl Try.underlying24 info3 rfl (by decide) (by omega) u255002 x255002_4 t261 [.int .i64 t261] (fun _ => True) (fun _ => False) rfl rfl ?aP (fun _ hk => hk.elim) ?aF ?aO ?aB ?aS ?aL ?_; (case aP => exact rfl); (case aB => exact qz1); (case aF => exact qz14); (case aO => exact (rr_ HO_255002.out)); (case aS => exact qz26); (case aL => have := LMc41.out; omega); intro v263 w44 ho hb hg hat; rw [← Ny262.out] at ho; replace HO_4 := aM (Kd.R_over' (rr_ HO_4.out) (Kd.R_typed (rr_ HO_255002.out)) (by decide) hg); replace BK249 := aM (blk_grown (bk_ BK249.out) hg (Kd.R_ne HO_255002.out BK249.out (by decide))); replace BK254 := aM (blk_grown (bk_ BK254.out) hg (Kd.R_ne HO_255002.out BK254.out (by decide))); replace HB := aM (hb); have HO264 := aM (ho); clear HO_255002; clear ho hb hg hat; obtain ⟨Ao45, co45, eo45⟩ := Kd.R_slice HO264.out; subst eo45; obtain ⟨hcz46_0, hcz46_1, hcz46_2, hfz46_0, hfz46_1, hfz46_2⟩ := b6_ BK254.out) | go_quiet (first | (go_at_call 127; (with_reducible refine (spec_l1Mark.calls k4 (bt (rdOf ByteArray.empty t250 x6_1) x8_4) t261 _ A37.out).mono ?_); rintro e w' ⟨rfl, ⟨nd, rfl⟩⟩; (try first | exact ⟨rfl, _, World.drewN_drewN _ _ _⟩ | exact ⟨rfl, _, Eq.trans (World.drewN_drewN _ _ _) (congrArg (World.drewN _) (Nat.add_assoc _ _ _))⟩); have hnb42 := NB254_249.out; have hnc42 := NB249_254.out; obtain ⟨hcz43_0, hcz43_1, hcz43_2, hfz43_0, hfz43_1, hfz43_2⟩ := b6_ BK254.out)))
 go_roundg k4
 case measure => have := HK1.out; have := HJ10.out; have := HJ19.out; have := HK4.out; omega
 case rel => exact ⟨(wrap64 (x8_4 + 1)), (x250000_4), (x250001_4), (y262), (.slice Ao45 y262.length co45), qz6, H', ⟨by have := HK1.out; have := HJ10.out; have := HJ19.out; have := HK4.out; omega⟩, ⟨by (with_reducible repeat (first | apply Kd.R_alloc | apply Kd.R_drewN | apply Kd.R_drew)); exact Kd.R_mono (Kd.R_far (p := ⟨gb254, 2, none⟩) (Kd.R_types HO_4.out BK254.out (by decide)) (fun _ hk => hk.2) (.slice Ao45 y262.length co45)) (fun _ hk => trivial)⟩, ⟨by (with_reducible repeat (first | apply Kd.R_alloc | apply Kd.R_drewN | apply Kd.R_drew)); exact Kd.R_mono (Kd.R_far (p := ⟨gb254, 2, none⟩) (Kd.R_types HO264.out BK254.out (by decide)) (fun _ hk => hk.2) (.slice Ao45 y262.length co45)) (fun _ hk => trivial)⟩, ⟨by (with_reducible repeat (first | refine blk_drewN ?_ _ | refine blk_drew ?_ | refine blk_alloc ?_ _)); refine blk_far ?_ NB249_254.out _; exact bk_ BK249.out⟩, ⟨by (with_reducible repeat (first | refine blk_drewN ?_ _ | refine blk_drew ?_ | refine blk_alloc ?_ _)); refine blk_put (cs := #[.int .i64 ((rdOf ByteArray.empty t250 0).size : Int), .int .i64 x255001_1, u255002]) ?_ 2 _ rfl; exact bk_ BK254.out⟩, ⟨qz1⟩⟩
 }
 }
 {
 have H' := aM H
 clear H
 have p259 : (0 ≤ (x6_1 : Int)) = True := et_
 have q259 : (x6_1 < (t250.length : Int)) = True := et_
 obtain ⟨ad259, e259, hx259_0⟩ := Kd.at_string (Kd.R_reads' HO_4.out).2.2 x6_1 dt_ dt_
 obtain rfl : ad253 = ad259 := (by injection e259)
 have hnb47 := NB254_249.out
 have hnc47 := NB249_254.out
 obtain ⟨hcz48_0, hcz48_1, hcz48_2, hfz48_0, hfz48_1, hfz48_2⟩ := b6_ BK254.out
 go_wp2
 repeat (go_quiet (fail); try go_wp2)
 go_roundg k4
 case measure => have := HK1.out; have := HJ10.out; have := HJ19.out; have := HK4.out; omega
 case rel => exact ⟨(wrap64 (x6_1 + 1)), (x250000_4), (x250001_4), (wrap64 (x255001_1 + 1)), (x255002_4), (u255002), qz6, H', ⟨by have := HK1.out; have := HJ10.out; have := HJ19.out; have := HK4.out; omega⟩, ⟨by (with_reducible repeat (first | apply Kd.R_alloc | apply Kd.R_drewN | apply Kd.R_drew)); exact Kd.R_mono (Kd.R_far (p := ⟨gb254, 1, none⟩) (Kd.R_types HO_4.out BK254.out (by decide)) (fun _ hk => hk.2) (.int .i64 (wrap64 (x255001_1 + 1)))) (fun _ hk => trivial)⟩, ⟨by (with_reducible repeat (first | apply Kd.R_alloc | apply Kd.R_drewN | apply Kd.R_drew)); exact Kd.R_mono (Kd.R_far (p := ⟨gb254, 1, none⟩) (Kd.R_types HO_255002.out BK254.out (by decide)) (fun _ hk => hk.2) (.int .i64 (wrap64 (x255001_1 + 1)))) (fun _ hk => trivial)⟩, ⟨by (with_reducible repeat (first | refine blk_drewN ?_ _ | refine blk_drew ?_ | refine blk_alloc ?_ _)); refine blk_far ?_ NB249_254.out _; exact bk_ BK249.out⟩, ⟨by (with_reducible repeat (first | refine blk_drewN ?_ _ | refine blk_drew ?_ | refine blk_alloc ?_ _)); refine blk_put (cs := #[.int .i64 ((rdOf ByteArray.empty t250 0).size : Int), .int .i64 x255001_1, u255002]) ?_ 1 _ rfl; exact bk_ BK254.out⟩, ⟨qz1⟩⟩
 }
 }
 }
 }
 {
 simp only [Option.some.injEq, Prod.mk.injEq] at H
 obtain ⟨rfl, rfl, rfl, rfl⟩ := H
 have hnb49 := NB254_249.out
 have hnc49 := NB249_254.out
 obtain ⟨hcz50_0, hcz50_1, hcz50_2, hfz50_0, hfz50_1, hfz50_2⟩ := b6_ BK254.out
 obtain ⟨hcz51_0, hcz51_1, hcz51_2, hfz51_0, hfz51_1, hfz51_2⟩ := b6_ BK249.out
 obtain ⟨Ao52, co52, eo52⟩ := Kd.R_slice HO_255002.out
 subst eo52
 go_wp2
 repeat (go_quiet (fail); try go_wp2)
 refine bodyPost_ret (results_ct rfl _ _ gb249 43 #[.int .i64 ((rdOf ByteArray.empty t250 0).size : Int), .int .i64 x255001_1, .slice Ao52 x255002_1.length co52] (0, 0) _ rfl (by (with_reducible repeat (first | refine blk_drewN ?_ _ | refine blk_drew ?_ | refine blk_alloc ?_ _)); refine blk_put (cs := #[.int .i64 ((rdOf ByteArray.empty t250 0).size : Int), .int .i64 x255001_1, .slice none 0 0]) ?_ 2 _ rfl; (with_reducible repeat (first | refine blk_drewN ?_ _ | refine blk_drew ?_ | refine blk_alloc ?_ _)); refine blk_put (cs := #[.int .i64 ((rdOf ByteArray.empty t250 0).size : Int), .int .i64 x250001_1, .slice none 0 0]) ?_ 1 _ rfl; (with_reducible repeat (first | refine blk_drewN ?_ _ | refine blk_drew ?_ | refine blk_alloc ?_ _)); refine blk_put (cs := #[.int .i64 x250000_1, .int .i64 x250001_1, .slice none 0 0]) ?_ 0 _ rfl; exact bk_ BK249.out) Try.underlying43 rfl (by kernel_rfl)) rfl ?_
 exact ⟨_, qzw, by (with_reducible repeat (first | apply Kd.R_alloc | apply Kd.R_drewN | apply Kd.R_drew)); exact Kd.R_mono (Kd.R_far (p := ⟨gb249, 2, none⟩) (Kd.R_far (p := ⟨gb249, 1, none⟩) (Kd.R_far (p := ⟨gb249, 0, none⟩) (Kd.R_types HO_255002.out BK249.out (by decide)) (fun _ hk => hk.2) (.int .i64 ((rdOf ByteArray.empty t250 0).size : Int))) (fun _ hk => hk.2) (.int .i64 x255001_1)) (fun _ hk => hk.2) (.slice Ao52 x255002_1.length co52)) (fun _ hk => trivial), qz1⟩
 }
/-! ### spec_l1Str: function 107 -/
def spec_l1Str.f (s0_0 : List Int) (s0_1 : Int) (s0_2 : Int) (l1 : List ByteArray) : Option (ByteArray × Int × Int) := (spec_l1Below.f s0_0 s0_1 s0_2 (l1.length : Int)).bind fun bt265 => (if 0 ≤ bt265.1 then (if bt265.1 < (l1.length : Int) then (some (rdOf ByteArray.empty l1 bt265.1, bt265.2.1, bt265.2.2)) else (none)) else (none))
set_option maxHeartbeats 8000000 in
set_option maxRecDepth 100000 in
theorem spec_l1Str.calls (g : Nat) (s0_0 : List Int) (s0_1 : Int) (s0_2 : Int) (A1 : Option Addr) (c1 : Nat) (l1 : List ByteArray) (r1 : ByteArray) (r2 : Int) (r3 : Int) (w0 w : World) (hI : IsS113 w0 w g s0_0 s0_1 s0_2) (hB : Below w0.heap.size w0 w) (hr1 : Kd.C Kd.string w A1 l1.length l1) (hc1 : l1.length ≤ c1) (hf1 : ∀ ad, A1 = some ad → 0 < l1.length → ad.block ≠ g) (h : spec_l1Str.f s0_0 s0_1 s0_2 l1 = some (r1, r2, r3)) :
  Calls Try.prog 107 #[.pointer (some ⟨g, 0, none⟩), .slice A1 l1.length c1] w fun e w' => e = .returned (.string r1) ∧ IsS113 w0 w' g s0_0 r2 r3 ∧ Below w0.heap.size w0 w' ∧ KeepBut w w' g none := by
 have HR1 := aM hr1
 have HC1 := aM hc1
 clear hr1 hc1
 have HI0 := aM hI
 have HK := aM (KeepBut.refl w g none)
 have HL := aM hB.size
 clear hI
 have HW0 := aM hB.size
 have HB := aM hB
 clear hB
 unfold spec_l1Str.f at h
 have H := h
 clear h
 replace H := Option.bind_eq_some_iff.mp H
 obtain ⟨⟨t265, t266, t267⟩, A30, H⟩ := H
 try dsimp only at H
 have A3 := aM A30
 clear A30
 replace H := iD_ H
 obtain ⟨c4b0, H⟩ := H
 replace H := iD_ H
 obtain ⟨c5b0, H⟩ := H
 simp only [Option.some.injEq, Prod.mk.injEq] at H
 obtain ⟨rfl, rfl, rfl⟩ := H
 go_enter Try.func107, Try.ntmps107
 go_wp2_with (first | ((with_reducible refine gate_callee (f := 73) rfl ?_); refine goesL_ (some 9) rfl rfl Try.func73 (by kernel_rfl) rfl #[.pointer (some ⟨g, 0, none⟩), .int .i64 (l1.length : Int)] rfl qz2 ?_; (with_reducible refine (spec_l1Below.calls g s0_0 s0_1 s0_2 (l1.length : Int) t265 t266 t267 w0 _ ?_ ?_ A3.out).mono ?_); exact qz4; exact qz1; rintro e w6 ⟨rfl, hi, hb, hk⟩; refine ⟨_, rfl, ?_⟩; replace HK := aM (KeepBut.trans qz3 hk (.inl rfl)); replace HB := aM (hb); replace HI0 := aM (hi); (try clear hb hk hi); have p268 : 0 ≤ (t265 : Int) := dt_; have q268 : t265 < (l1.length : Int) := dt_; obtain ⟨ad268, e268, hx268_0⟩ := Kd.at_string HR1.out t265 p268 q268; cases e268; replace hx268_0 := keep_cell HK.out hx268_0 (by first | (rw [add_block]; exact hf1 _ rfl (by omega)) | exact hf1 _ rfl (by omega) | exact hf1 ad268 rfl (by omega)); replace p268 := eq_true p268; replace q268 := eq_true q268))
 go_ret
 exact ⟨qzw, qz4, qz1, qz3⟩
end Go.Proofs.Ytankmdbbgepmbaa.PFnFirst
