-- Made by a program of this session out of the translation. Lean checks it.
import Derived.Test.YtankmdbbgepmbaaPFnLivelyx10
import Derived.Test.YtankmdbbgepmbaaPFnLivelyx12
namespace Go.Proofs.Ytankmdbbgepmbaa.PFnLively
open Go.RowKit Go.Proofs.YtankmdbbgepmbaaW.PrintWords Go.Proofs.YtankmdbbgepmbaaW.PrintLast Go.Proofs.YtankmdbbgepmbaaW.PrintMore
attribute [local go_sem] max2_int min2_int max_two min_two max_three min_three max_four min_four   -- for this text's walks alone
set_option linter.unusedVariables false
set_option linter.unusedSimpArgs false

/-! ### spec_ParseFloor: function 106 -/
mutual
def spec_ParseFloor.l0 : Nat → List ByteArray → Int → Int → Int → List Int → Option (Int × Int × List Int × Int)
 | 0, _, _, _, _, _ => none
 | k + 1, x4, x6, x254000, x254001, x254002 => if x6 < (x4.length : Int) then (if x6 = (wrap64 ((x4.length : Int) - 1)) then (if 0 ≤ x6 then (if (rdOf ByteArray.empty x4 x6).toList = ([] : List UInt8) then (spec_ParseFloor.j1 k x4 x6 (x6 == (wrap64 ((x4.length : Int) - 1))) (decide (x6 > 0)) x254000 x254001 x254002) else (spec_ParseFloor.j1 k x4 x6 (x6 == (wrap64 ((x4.length : Int) - 1))) false x254000 x254001 x254002)) else (none)) else (spec_ParseFloor.j1 k x4 x6 (x6 == (wrap64 ((x4.length : Int) - 1))) false x254000 x254001 x254002)) else (some (x254000, x254001, x254002, (-1)))
def spec_ParseFloor.j1 : Nat → List ByteArray → Int → Bool → Bool → Int → Int → List Int → Option (Int × Int × List Int × Int)
 | 0, _, _, _, _, _, _, _ => none
 | k + 1, x4, x6, x7, x39, x254000, x254001, x254002 => if x39 = true then (some (x254000, x254001, x254002, (-1))) else (if x7 = true then (spec_ParseFloor.j2 k x4 x6 true x254000 x254001 x254002) else (if x6 = 10 then (spec_ParseFloor.j2 k x4 x6 true x254000 x254001 x254002) else (if 0 ≤ x6 then (if x6 < (x4.length : Int) then ((spec_l1In.f ((rdOf ByteArray.empty x4 x6).size : Int) 1 10).bind fun t256 => (if t256 = true then (spec_ParseFloor.j2 k x4 x6 (((rdOf ByteArray.empty x4 x6).size : Int) != x254000) x254000 x254001 x254002) else (spec_ParseFloor.j2 k x4 x6 true x254000 x254001 x254002))) else (none)) else (none))))
def spec_ParseFloor.j2 : Nat → List ByteArray → Int → Bool → Int → Int → List Int → Option (Int × Int × List Int × Int)
 | 0, _, _, _, _, _, _ => none
 | k + 1, x4, x6, x63, x254000, x254001, x254002 => if x63 = true then (some (0, 0, ([] : List Int), x6)) else (spec_ParseFloor.l1 k x4 x6 0 x254000 x254001 x254002)
def spec_ParseFloor.l1 : Nat → List ByteArray → Int → Int → Int → Int → List Int → Option (Int × Int × List Int × Int)
 | 0, _, _, _, _, _, _ => none
 | k + 1, x4, x6, x8, x254000, x254001, x254002 => if 0 ≤ x6 then (if x6 < (x4.length : Int) then (if x8 < ((rdOf ByteArray.empty x4 x6).size : Int) then (if 0 ≤ x8 then ((spec_l1Mark.f k (bt (rdOf ByteArray.empty x4 x6) x8)).bind fun t260 => (if t260 < 0 then (some (0, 0, ([] : List Int), x6)) else (if x254002.length < 17592186044416 then (spec_ParseFloor.l1 k x4 x6 (wrap64 (x8 + 1)) x254000 x254001 (x254002 ++ [t260])) else (none)))) else (none)) else (spec_ParseFloor.l0 k x4 (wrap64 (x6 + 1)) x254000 (wrap64 (x254001 + 1)) x254002)) else (none)) else (none)
end
def spec_ParseFloor.f (k : Nat) (a0 : ByteArray) : Option (Int × Int × List Int × Int) := (spec_l1Split.f k a0 10).bind fun t249 => (if 0 < (t249.length : Int) then (spec_ParseFloor.l0 k t249 0 ((rdOf ByteArray.empty t249 0).size : Int) 0 ([] : List Int)) else (none))
theorem spec_ParseFloor.mono_l : ∀ k, (∀ y0 y1 y2 y3 y4, LeO (spec_ParseFloor.l0 k y0 y1 y2 y3 y4) (spec_ParseFloor.l0 (k + 1) y0 y1 y2 y3 y4)) ∧ (∀ y0 y1 y2 y3 y4 y5 y6, LeO (spec_ParseFloor.j1 k y0 y1 y2 y3 y4 y5 y6) (spec_ParseFloor.j1 (k + 1) y0 y1 y2 y3 y4 y5 y6)) ∧ (∀ y0 y1 y2 y3 y4 y5, LeO (spec_ParseFloor.j2 k y0 y1 y2 y3 y4 y5) (spec_ParseFloor.j2 (k + 1) y0 y1 y2 y3 y4 y5)) ∧ (∀ y0 y1 y2 y3 y4 y5, LeO (spec_ParseFloor.l1 k y0 y1 y2 y3 y4 y5) (spec_ParseFloor.l1 (k + 1) y0 y1 y2 y3 y4 y5))
 | 0 => ⟨fun _ _ _ _ _ r h => by simp [spec_ParseFloor.l0] at h, fun _ _ _ _ _ _ _ r h => by simp [spec_ParseFloor.j1] at h, fun _ _ _ _ _ _ r h => by simp [spec_ParseFloor.j2] at h, fun _ _ _ _ _ _ r h => by simp [spec_ParseFloor.l1] at h⟩
 | k + 1 => by
  obtain ⟨ih0, ih1, ih2, ih3⟩ := spec_ParseFloor.mono_l k
  refine ⟨?_, ?_, ?_, ?_⟩
  {
  intro y0 y1 y2 y3 y4
  unfold spec_ParseFloor.l0
  have j0 := @spec_l1Mark.mono
  have j1 := @spec_l1Split.mono
  exact qL
  }
  {
  intro y0 y1 y2 y3 y4 y5 y6
  unfold spec_ParseFloor.j1
  have j0 := @spec_l1Mark.mono
  have j1 := @spec_l1Split.mono
  exact qL
  }
  {
  intro y0 y1 y2 y3 y4 y5
  unfold spec_ParseFloor.j2
  have j0 := @spec_l1Mark.mono
  have j1 := @spec_l1Split.mono
  exact qL
  }
  {
  intro y0 y1 y2 y3 y4 y5
  unfold spec_ParseFloor.l1
  have j0 := @spec_l1Mark.mono
  have j1 := @spec_l1Split.mono
  exact qL
  }
theorem spec_ParseFloor.mono : ∀ a0 k, LeO (spec_ParseFloor.f k a0) (spec_ParseFloor.f (k + 1) a0) := by
 intro a0 k
 obtain ⟨ih0, ih1, ih2, ih3⟩ := spec_ParseFloor.mono_l k
 unfold spec_ParseFloor.f
 have j0 := @spec_l1Mark.mono
 have j1 := @spec_l1Split.mono
 exact qL
set_option maxHeartbeats 8000000 in
set_option maxRecDepth 100000 in
theorem spec_ParseFloor.calls (k : Nat) (a0 : ByteArray) (r1 : Int) (r2 : Int) (r3 : List Int) (r4 : Int) (w : World) (h : spec_ParseFloor.f k a0 = some (r1, r2, r3, r4)) :
  Calls Try.prog 106 #[.string a0] w fun e w' => ∃ v2_ : Value, e = .returned (.tuple #[.agg #[.int .i64 r1, .int .i64 r2, v2_], .int .i64 r4]) ∧ Kd.R (Kd.int .i64) 3 w' w.heap.size (fun _ => True) v2_ r3 ∧ Below w.heap.size w w' := by
 have hu43 := Try.underlying43
 have HB := aM (Below.refl w.heap.size w)
 unfold spec_ParseFloor.f at h
 have H := h
 clear h
 replace H := Option.bind_eq_some_iff.mp H
 obtain ⟨t249, A20, H⟩ := H
 have A2 := aM A20
 clear A20
 replace H := iN_ H
 obtain ⟨c3, H⟩ := H
 have c3b0 := decide_eq_true c3
 have c3b1 : decide (0 < t249.length) = true := decide_eq_true (by omega)
 clear c3
 have H' := aM H
 clear H
 go_enter Try.func106, Try.ntmps106
 go_wp2_with (first | ((with_reducible refine gate_dst (N := 2) rfl ?_); (try (refine gate_guard (by rfl) ?_; dsimp only)); refine bx_ 2 #[.int .i64 0, .int .i64 0, .slice none 0 0] 43 ?_; intro gb248 hg w4 hbox hb; have BK248 := aM (hbox); have GW248 := aM (bz_ w hg qz1); have GE248 := GW248; replace HB := bS_ hb; clear hb hbox hg) | (go_at_call 126; (with_reducible refine (spec_l1Split.calls k a0 10 t249 _ A2.out).mono ?_); rintro e w5 ⟨v250, rfl, ho0, hb⟩; have HO251 := aM (Kd.R_lower ho0 (below_size qz1)); replace BK248 := bB_ BK248 hb; replace HB := bS_ hb; (try clear hb ho0); obtain ⟨Ao6, co6, eo6⟩ := Kd.R_slice HO251.out; subst eo6; have p252 : 0 ≤ (0 : Int) := (by omega); have q252 : 0 < (t249.length : Int) := dt_; obtain ⟨ad252, e252, hx252_0⟩ := Kd.at_string (Kd.R_reads' HO251.out).2.2 0 p252 q252; cases e252; have qi252 : (0 < t249.length) = True := eq_true (by omega); (try rw [show ((0 : Int)).toNat = 0 from rfl] at hx252_0); (try rw [Addr.add_zero'] at hx252_0); replace p252 := eq_true p252; replace q252 := eq_true q252) | ((with_reducible refine gate_dst (N := 5) rfl ?_); (try (refine gate_guard (by rfl) ?_; dsimp only)); refine bx_ 5 #[.int .i64 0, .int .i64 0, .slice none 0 0] 43 ?_; intro gb253 hg w7 hbox hb; replace HO251 := aM (Kd.R_below (rr_ HO251.out) hb); have BK253 := aM (hbox); have GW253 := aM (bz_ w hg qz1); have GE253 := GW253; replace HB := bS_ hb; obtain ⟨NB248_253, NB253_248⟩ := nb_ hg (bk_ BK248.out); replace BK248 := bB_ BK248 hb; clear hb hbox hg; have hnb8 := NB253_248.out; have hnc8 := NB248_253.out; obtain ⟨hcz9_0, hcz9_1, hcz9_2, hfz9_0, hfz9_1, hfz9_2⟩ := b6_ BK253.out) | go_quiet (first | (go_at_call 126; (with_reducible refine (spec_l1Split.calls k a0 10 t249 _ A2.out).mono ?_); rintro e w5 ⟨v250, rfl, ho0, hb⟩; have HO251 := aM (Kd.R_lower ho0 (below_size qz1)); replace BK248 := bB_ BK248 hb; replace HB := bS_ hb; (try clear hb ho0); obtain ⟨Ao6, co6, eo6⟩ := Kd.R_slice HO251.out; subst eo6; have p252 : 0 ≤ (0 : Int) := (by omega); have q252 : 0 < (t249.length : Int) := dt_; obtain ⟨ad252, e252, hx252_0⟩ := Kd.at_string (Kd.R_reads' HO251.out).2.2 0 p252 q252; cases e252; have qi252 : (0 < t249.length) = True := eq_true (by omega); (try rw [show ((0 : Int)).toNat = 0 from rfl] at hx252_0); (try rw [Addr.add_zero'] at hx252_0); replace p252 := eq_true p252; replace q252 := eq_true q252)))
 go_loopg [6] k (fun kq v6 w' => ∃ (x6_1 : Int) (x249000_1 : Int) (x249001_1 : Int) (x254001_1 : Int) (x254002_1 : List Int) (u254002 : Value), v6 = .int .i64 x6_1 ∧ Aside0 (spec_ParseFloor.l0 kq t249 x6_1 ((rdOf ByteArray.empty t249 0).size : Int) x254001_1 x254002_1 = some (r1, r2, r3, r4)) ∧ Aside0 (kq ≤ k) ∧ Aside0 (Kd.R Kd.string 9 w' w.heap.size (fun _ => True) (.slice (some ad252) t249.length co6) t249) ∧ Aside0 (Kd.R (Kd.int .i64) 3 w' w.heap.size (fun _ => True) u254002 x254002_1) ∧ Aside0 (w'.heap[gb248]? = some (.cells #[.int .i64 x249000_1, .int .i64 x249001_1, (.slice none 0 0)] 43 (0, 0))) ∧ Aside0 (w'.heap[gb253]? = some (.cells #[.int .i64 ((rdOf ByteArray.empty t249 0).size : Int), .int .i64 x254001_1, u254002] 43 (0, 0))) ∧ Aside0 (Below w.heap.size w w'))
 case atStart => exact ⟨(0), (0), (0), (0), (([] : List Int)), (.slice none 0 0), qz6, H', ⟨Nat.le_refl _⟩, ⟨by (with_reducible repeat (first | apply Kd.R_alloc | apply Kd.R_drewN | apply Kd.R_drew)); exact Kd.R_mono (Kd.R_far (p := ⟨gb253, 2, none⟩) (Kd.R_far (p := ⟨gb253, 1, none⟩) (Kd.R_far (p := ⟨gb253, 0, none⟩) (Kd.R_types HO251.out BK253.out (by decide)) (fun _ hk => hk.2) (.int .i64 ((rdOf ByteArray.empty t249 0).size : Int))) (fun _ hk => hk.2) (.int .i64 0)) (fun _ hk => hk.2) (.slice none 0 0)) (fun _ hk => trivial)⟩, ⟨by first | exact Kd.R_nil _ _ _ _ _ | exact Kd.N_nil _ _ _ _ _ | exact Kd.V_nil _ _ _ _ _ | exact Kd.Q_nil _ _ _ _ _ | exact Kd.S_nil _ _ _ _ _⟩, ⟨by (with_reducible repeat (first | refine blk_drewN ?_ _ | refine blk_drew ?_ | refine blk_alloc ?_ _)); refine blk_far ?_ NB248_253.out _; (with_reducible repeat (first | refine blk_drewN ?_ _ | refine blk_drew ?_ | refine blk_alloc ?_ _)); refine blk_far ?_ NB248_253.out _; (with_reducible repeat (first | refine blk_drewN ?_ _ | refine blk_drew ?_ | refine blk_alloc ?_ _)); refine blk_far ?_ NB248_253.out _; exact bk_ BK248.out⟩, ⟨by (with_reducible repeat (first | refine blk_drewN ?_ _ | refine blk_drew ?_ | refine blk_alloc ?_ _)); refine blk_put (cs := #[.int .i64 ((rdOf ByteArray.empty t249 0).size : Int), .int .i64 0, .slice none 0 0]) ?_ 2 _ rfl; (with_reducible repeat (first | refine blk_drewN ?_ _ | refine blk_drew ?_ | refine blk_alloc ?_ _)); refine blk_put (cs := #[.int .i64 ((rdOf ByteArray.empty t249 0).size : Int), .int .i64 0, .slice none 0 0]) ?_ 1 _ rfl; (with_reducible repeat (first | refine blk_drewN ?_ _ | refine blk_drew ?_ | refine blk_alloc ?_ _)); refine blk_put (cs := #[.int .i64 0, .int .i64 0, .slice none 0 0]) ?_ 0 _ rfl; exact bk_ BK253.out⟩, ⟨qz1⟩⟩
 case round =>
 clear H'
 try clear qi2
 try clear c3
 try clear c3b0
 try clear c3b1
 try clear hcz9_0 hcz9_1 hcz9_2 hfz9_0 hfz9_1 hfz9_2
 try clear hx252_0
 try clear p252
 try clear q252
 obtain ⟨x6_1, x249000_1, x249001_1, x254001_1, x254002_1, u254002, rfl, HA, HK1, HO_4, HO_254002, BK248, BK253, HB⟩ := hrel
 cases gk with
 | zero => exact absurd HA.out (by simp [spec_ParseFloor.l0])
 | succ k1 =>
 have H := HA.out
 clear HA
 simp only [spec_ParseFloor.l0] at H
 replace H := iE_ H
 rcases H with ⟨c10b0, H⟩ | ⟨c10b0, H⟩
 {
 have HC11 := aM H
 clear H
 go_upto_region 7 with (fail)
 repeat (go_quiet (fail); go_upto_region 7 with (fail))
 go_cut [7, 39] (fun v7 v39 wc => ∃ (kq : Nat) (x7_10 : Bool) (x39_10 : Bool), v7 = .bool x7_10 ∧ v39 = .bool x39_10 ∧ Aside0 (spec_ParseFloor.j1 kq t249 x6_1 x7_10 x39_10 ((rdOf ByteArray.empty t249 0).size : Int) x254001_1 x254002_1 = some (r1, r2, r3, r4)) ∧ Aside0 (kq ≤ k1) ∧ Aside0 (Kd.R Kd.string 9 wc w.heap.size (fun _ => True) (.slice (some ad252) t249.length co6) t249) ∧ Aside0 (Kd.R (Kd.int .i64) 3 wc w.heap.size (fun _ => True) u254002 x254002_1) ∧ Aside0 (wc.heap[gb248]? = some (.cells #[.int .i64 x249000_1, .int .i64 x249001_1, (.slice none 0 0)] 43 (0, 0))) ∧ Aside0 (wc.heap[gb253]? = some (.cells #[.int .i64 ((rdOf ByteArray.empty t249 0).size : Int), .int .i64 x254001_1, u254002] 43 (0, 0))) ∧ Aside0 (Below w.heap.size w wc))
 case first =>
  have H := HC11.out
  clear HC11
  replace H := iQ_ H
  rcases H with ⟨c12b0, c12b1, H⟩ | ⟨c12, c12b0, c12b1, H⟩
  {
  (first | rw [c12b0] | (simp only [i64_w, i32_w]; rw [c12b0]) | rw [@decide_eq_true _ _ (of_decide_eq_true c12b0)] | rw [@decide_eq_true _ _ (of_decide_eq_true c12b1)] | skip)
  replace H := iD_ H
  obtain ⟨c13b0, H⟩ := H
  replace H := iQ_ H
  rcases H with ⟨c14b0, c14b1, H⟩ | ⟨c14, c14b0, c14b1, H⟩
  {
  have H' := aM H
  clear H
  have p254 : (0 ≤ (x6_1 : Int)) = True := et_
  have q254 : (x6_1 < (t249.length : Int)) = True := et_
  obtain ⟨ad254, e254, hx254_0⟩ := Kd.at_string (Kd.R_reads' HO_4.out).2.2 x6_1 dt_ dt_
  obtain rfl : ad252 = ad254 := (by injection e254)
  go_wp2
  repeat (go_quiet (fail); try go_wp2)
  go_meet
  case rel => exact ⟨_, ((x6_1 == (wrap64 ((t249.length : Int) - 1)))), (decide (x6_1 > 0)), qz6, qz6, H', ⟨by have := HK1.out; first | omega | exact Nat.le_refl _⟩, ⟨rm_ HO_4.out⟩, ⟨rm_ HO_254002.out⟩, ⟨bk_ BK248.out⟩, ⟨bk_ BK253.out⟩, ⟨qz1⟩⟩
  }
  {
  have H' := aM H
  clear H
  have p254 : (0 ≤ (x6_1 : Int)) = True := et_
  have q254 : (x6_1 < (t249.length : Int)) = True := et_
  obtain ⟨ad254, e254, hx254_0⟩ := Kd.at_string (Kd.R_reads' HO_4.out).2.2 x6_1 dt_ dt_
  obtain rfl : ad252 = ad254 := (by injection e254)
  go_wp2
  repeat (go_quiet (fail); try go_wp2)
  go_meet
  case rel => exact ⟨_, ((x6_1 == (wrap64 ((t249.length : Int) - 1)))), (false), qz6, qz6, H', ⟨by have := HK1.out; first | omega | exact Nat.le_refl _⟩, ⟨rm_ HO_4.out⟩, ⟨rm_ HO_254002.out⟩, ⟨bk_ BK248.out⟩, ⟨bk_ BK253.out⟩, ⟨qz1⟩⟩
  }
  }
  {
  (first | rw [c12b0] | (simp only [i64_w, i32_w]; rw [c12b0]) | rw [@decide_eq_false _ _ (of_decide_eq_false c12b0)] | rw [@decide_eq_false _ _ (of_decide_eq_false c12b1)] | skip)
  have H' := aM H
  clear H
  go_wp2
  repeat (go_quiet (fail); try go_wp2)
  go_meet
  case rel => exact ⟨_, ((x6_1 == (wrap64 ((t249.length : Int) - 1)))), (false), qz6, qz6, H', ⟨by have := HK1.out; first | omega | exact Nat.le_refl _⟩, ⟨rm_ HO_4.out⟩, ⟨rm_ HO_254002.out⟩, ⟨bk_ BK248.out⟩, ⟨bk_ BK253.out⟩, ⟨qz1⟩⟩
  }
 case rest =>
 clear HC11
 try clear qi2
 try clear c3
 try clear c3b0
 try clear c3b1
 try clear c10
 try clear c10b0
 try clear hcz9_0 hcz9_1 hcz9_2 hfz9_0 hfz9_1 hfz9_2
 try clear hx252_0
 try clear p252
 try clear q252
 obtain ⟨kq, x7_10, x39_10, rfl, rfl, HA, HJ10, HO_4, HO_254002, BK248, BK253, HB⟩ := hcut
 cases kq with
 | zero => exact absurd HA.out (by simp [spec_ParseFloor.j1])
 | succ kj10 =>
 have H := HA.out
 clear HA
 simp only [spec_ParseFloor.j1] at H
 replace H := iB_ H
 rcases H with ⟨rfl, H⟩ | ⟨rfl, H⟩
 {
 simp only [Option.some.injEq, Prod.mk.injEq] at H
 obtain ⟨rfl, rfl, rfl, rfl⟩ := H
 have hnb16 := NB253_248.out
 have hnc16 := NB248_253.out
 obtain ⟨hcz17_0, hcz17_1, hcz17_2, hfz17_0, hfz17_1, hfz17_2⟩ := b6_ BK253.out
 obtain ⟨hcz18_0, hcz18_1, hcz18_2, hfz18_0, hfz18_1, hfz18_2⟩ := b6_ BK248.out
 obtain ⟨Ao19, co19, eo19⟩ := Kd.R_slice HO_254002.out
 subst eo19
 go_wp2
 repeat (go_quiet (fail); try go_wp2)
 refine bodyPost_ret (results_ct rfl _ _ gb248 43 #[.int .i64 ((rdOf ByteArray.empty t249 0).size : Int), .int .i64 x254001_1, .slice Ao19 x254002_1.length co19] (0, 0) _ rfl (by (with_reducible repeat (first | refine blk_drewN ?_ _ | refine blk_drew ?_ | refine blk_alloc ?_ _)); refine blk_put (cs := #[.int .i64 ((rdOf ByteArray.empty t249 0).size : Int), .int .i64 x254001_1, .slice none 0 0]) ?_ 2 _ rfl; (with_reducible repeat (first | refine blk_drewN ?_ _ | refine blk_drew ?_ | refine blk_alloc ?_ _)); refine blk_put (cs := #[.int .i64 ((rdOf ByteArray.empty t249 0).size : Int), .int .i64 x249001_1, .slice none 0 0]) ?_ 1 _ rfl; (with_reducible repeat (first | refine blk_drewN ?_ _ | refine blk_drew ?_ | refine blk_alloc ?_ _)); refine blk_put (cs := #[.int .i64 x249000_1, .int .i64 x249001_1, .slice none 0 0]) ?_ 0 _ rfl; exact bk_ BK248.out) Try.underlying43 rfl (by kernel_rfl)) rfl ?_
 exact ⟨_, qzw, by (with_reducible repeat (first | apply Kd.R_alloc | apply Kd.R_drewN | apply Kd.R_drew)); exact Kd.R_mono (Kd.R_far (p := ⟨gb248, 2, none⟩) (Kd.R_far (p := ⟨gb248, 1, none⟩) (Kd.R_far (p := ⟨gb248, 0, none⟩) (Kd.R_types HO_254002.out BK248.out (by decide)) (fun _ hk => hk.2) (.int .i64 ((rdOf ByteArray.empty t249 0).size : Int))) (fun _ hk => hk.2) (.int .i64 x254001_1)) (fun _ hk => hk.2) (.slice Ao19 x254002_1.length co19)) (fun _ hk => trivial), qz1⟩
 }
 {
 have HC20 := aM H
 clear H
 go_upto_region 8 with (fail)
 repeat (go_quiet (fail); go_upto_region 8 with (fail))
 go_cut [63] (fun v63 wc => ∃ (kq : Nat) (x63_19 : Bool), v63 = .bool x63_19 ∧ Aside0 (spec_ParseFloor.j2 kq t249 x6_1 x63_19 ((rdOf ByteArray.empty t249 0).size : Int) x254001_1 x254002_1 = some (r1, r2, r3, r4)) ∧ Aside0 (kq ≤ kj10) ∧ Aside0 (Kd.R Kd.string 9 wc w.heap.size (fun _ => True) (.slice (some ad252) t249.length co6) t249) ∧ Aside0 (Kd.R (Kd.int .i64) 3 wc w.heap.size (fun _ => True) u254002 x254002_1) ∧ Aside0 (wc.heap[gb248]? = some (.cells #[.int .i64 x249000_1, .int .i64 x249001_1, (.slice none 0 0)] 43 (0, 0))) ∧ Aside0 (wc.heap[gb253]? = some (.cells #[.int .i64 ((rdOf ByteArray.empty t249 0).size : Int), .int .i64 x254001_1, u254002] 43 (0, 0))) ∧ Aside0 (Below w.heap.size w wc))
 case first =>
  have H := HC20.out
  clear HC20
  replace H := iB_ H
  rcases H with ⟨rfl, H⟩ | ⟨rfl, H⟩
  {
  have H' := aM H
  clear H
  go_wp2
  repeat (go_quiet (fail); try go_wp2)
  go_meet
  case rel => exact ⟨_, (true), qz6, H', ⟨by have := HK1.out; have := HJ10.out; first | omega | exact Nat.le_refl _⟩, ⟨rm_ HO_4.out⟩, ⟨rm_ HO_254002.out⟩, ⟨bk_ BK248.out⟩, ⟨bk_ BK253.out⟩, ⟨qz1⟩⟩
  }
  {
  replace H := iQ_ H
  rcases H with ⟨c22b0, c22b1, H⟩ | ⟨c22, c22b0, c22b1, H⟩
  {
  (first | rw [c22b0] | (simp only [i64_w, i32_w]; rw [c22b0]) | rw [@decide_eq_true _ _ (of_decide_eq_true c22b0)] | rw [@decide_eq_true _ _ (of_decide_eq_true c22b1)] | skip)
  have H' := aM H
  clear H
  go_wp2
  repeat (go_quiet (fail); try go_wp2)
  go_meet
  case rel => exact ⟨_, (true), qz6, H', ⟨by have := HK1.out; have := HJ10.out; first | omega | exact Nat.le_refl _⟩, ⟨rm_ HO_4.out⟩, ⟨rm_ HO_254002.out⟩, ⟨bk_ BK248.out⟩, ⟨bk_ BK253.out⟩, ⟨qz1⟩⟩
  }
  {
  (first | rw [c22b0] | (simp only [i64_w, i32_w]; rw [c22b0]) | rw [@decide_eq_false _ _ (of_decide_eq_false c22b0)] | rw [@decide_eq_false _ _ (of_decide_eq_false c22b1)] | skip)
  replace H := iD_ H
  obtain ⟨c23b0, H⟩ := H
  replace H := iD_ H
  obtain ⟨c24b0, H⟩ := H
  replace H := Option.bind_eq_some_iff.mp H
  obtain ⟨t256, A250, H⟩ := H
  have A25 := aM A250
  clear A250
  replace H := iB_ H
  rcases H with ⟨rfl, H⟩ | ⟨rfl, H⟩
  {
  have H' := aM H
  clear H
  have p255 : (0 ≤ (x6_1 : Int)) = True := et_
  have q255 : (x6_1 < (t249.length : Int)) = True := et_
  obtain ⟨ad255, e255, hx255_0⟩ := Kd.at_string (Kd.R_reads' HO_4.out).2.2 x6_1 dt_ dt_
  obtain rfl : ad252 = ad255 := (by injection e255)
  go_wp2_with (first | (go_at_call 98; (with_reducible refine (spec_l1In.calls ((rdOf ByteArray.empty t249 x6_1).size : Int) 1 10 true _ A25.out).mono ?_); rintro e w' ⟨rfl, ⟨nd, rfl⟩⟩; (try first | exact ⟨rfl, _, World.drewN_drewN _ _ _⟩ | exact ⟨rfl, _, Eq.trans (World.drewN_drewN _ _ _) (congrArg (World.drewN _) (Nat.add_assoc _ _ _))⟩); have p257 : 0 ≤ (x6_1 : Int) := dt_; have q257 : x6_1 < (t249.length : Int) := dt_; obtain ⟨ad257, e257, hx257_0⟩ := Kd.at_string (Kd.R_reads' HO_4.out).2.2 x6_1 p257 q257; obtain rfl : ad252 = ad257 := (by injection e257); replace p257 := eq_true p257; replace q257 := eq_true q257; have hnb27 := NB253_248.out; have hnc27 := NB248_253.out; obtain ⟨hcz28_0, hcz28_1, hcz28_2, hfz28_0, hfz28_1, hfz28_2⟩ := b6_ BK253.out) | go_quiet (first | (go_at_call 98; (with_reducible refine (spec_l1In.calls ((rdOf ByteArray.empty t249 x6_1).size : Int) 1 10 true _ A25.out).mono ?_); rintro e w' ⟨rfl, ⟨nd, rfl⟩⟩; (try first | exact ⟨rfl, _, World.drewN_drewN _ _ _⟩ | exact ⟨rfl, _, Eq.trans (World.drewN_drewN _ _ _) (congrArg (World.drewN _) (Nat.add_assoc _ _ _))⟩); have p257 : 0 ≤ (x6_1 : Int) := dt_; have q257 : x6_1 < (t249.length : Int) := dt_; obtain ⟨ad257, e257, hx257_0⟩ := Kd.at_string (Kd.R_reads' HO_4.out).2.2 x6_1 p257 q257; obtain rfl : ad252 = ad257 := (by injection e257); replace p257 := eq_true p257; replace q257 := eq_true q257; have hnb27 := NB253_248.out; have hnc27 := NB248_253.out; obtain ⟨hcz28_0, hcz28_1, hcz28_2, hfz28_0, hfz28_1, hfz28_2⟩ := b6_ BK253.out)))
  go_meet
  case rel => exact ⟨_, ((((rdOf ByteArray.empty t249 x6_1).size : Int) != ((rdOf ByteArray.empty t249 0).size : Int))), qz6, H', ⟨by have := HK1.out; have := HJ10.out; first | omega | exact Nat.le_refl _⟩, ⟨rm_ HO_4.out⟩, ⟨rm_ HO_254002.out⟩, ⟨bk_ BK248.out⟩, ⟨bk_ BK253.out⟩, ⟨qz1⟩⟩
  }
  {
  have H' := aM H
  clear H
  have p255 : (0 ≤ (x6_1 : Int)) = True := et_
  have q255 : (x6_1 < (t249.length : Int)) = True := et_
  obtain ⟨ad255, e255, hx255_0⟩ := Kd.at_string (Kd.R_reads' HO_4.out).2.2 x6_1 dt_ dt_
  obtain rfl : ad252 = ad255 := (by injection e255)
  go_wp2_with (first | (go_at_call 98; (with_reducible refine (spec_l1In.calls ((rdOf ByteArray.empty t249 x6_1).size : Int) 1 10 false _ A25.out).mono ?_); rintro e w' ⟨rfl, ⟨nd, rfl⟩⟩; (try first | exact ⟨rfl, _, World.drewN_drewN _ _ _⟩ | exact ⟨rfl, _, Eq.trans (World.drewN_drewN _ _ _) (congrArg (World.drewN _) (Nat.add_assoc _ _ _))⟩)) | go_quiet (first | (go_at_call 98; (with_reducible refine (spec_l1In.calls ((rdOf ByteArray.empty t249 x6_1).size : Int) 1 10 false _ A25.out).mono ?_); rintro e w' ⟨rfl, ⟨nd, rfl⟩⟩; (try first | exact ⟨rfl, _, World.drewN_drewN _ _ _⟩ | exact ⟨rfl, _, Eq.trans (World.drewN_drewN _ _ _) (congrArg (World.drewN _) (Nat.add_assoc _ _ _))⟩))))
  go_meet
  case rel => exact ⟨_, (true), qz6, H', ⟨by have := HK1.out; have := HJ10.out; first | omega | exact Nat.le_refl _⟩, ⟨rm_ HO_4.out⟩, ⟨rm_ HO_254002.out⟩, ⟨bk_ BK248.out⟩, ⟨bk_ BK253.out⟩, ⟨qz1⟩⟩
  }
  }
  }
 case rest =>
 clear HC20
 try clear qi2
 try clear c3
 try clear c3b0
 try clear c3b1
 try clear c10
 try clear c10b0
 try clear c15
 try clear qi25
 try clear hcz9_0 hcz9_1 hcz9_2 hfz9_0 hfz9_1 hfz9_2
 try clear hx252_0
 try clear p252
 try clear q252
 obtain ⟨kq, x63_19, rfl, HA, HJ19, HO_4, HO_254002, BK248, BK253, HB⟩ := hcut
 cases kq with
 | zero => exact absurd HA.out (by simp [spec_ParseFloor.j2])
 | succ kj19 =>
 have H := HA.out
 clear HA
 simp only [spec_ParseFloor.j2] at H
 replace H := iB_ H
 rcases H with ⟨rfl, H⟩ | ⟨rfl, H⟩
 {
 simp only [Option.some.injEq, Prod.mk.injEq] at H
 obtain ⟨rfl, rfl, rfl, rfl⟩ := H
 have hnb30 := NB248_253.out
 have hnc30 := NB253_248.out
 obtain ⟨hcz31_0, hcz31_1, hcz31_2, hfz31_0, hfz31_1, hfz31_2⟩ := b6_ BK248.out
 go_wp2
 repeat (go_quiet (fail); try go_wp2)
 refine bodyPost_ret (results_ct rfl _ _ gb248 43 #[.int .i64 0, .int .i64 0, .slice none 0 0] (0, 0) _ rfl (by (with_reducible repeat (first | refine blk_drewN ?_ _ | refine blk_drew ?_ | refine blk_alloc ?_ _)); refine blk_put (cs := #[.int .i64 0, .int .i64 0, .slice none 0 0]) ?_ 2 _ rfl; (with_reducible repeat (first | refine blk_drewN ?_ _ | refine blk_drew ?_ | refine blk_alloc ?_ _)); refine blk_put (cs := #[.int .i64 0, .int .i64 x249001_1, .slice none 0 0]) ?_ 1 _ rfl; (with_reducible repeat (first | refine blk_drewN ?_ _ | refine blk_drew ?_ | refine blk_alloc ?_ _)); refine blk_put (cs := #[.int .i64 x249000_1, .int .i64 x249001_1, .slice none 0 0]) ?_ 0 _ rfl; exact bk_ BK248.out) Try.underlying43 rfl (by kernel_rfl)) rfl ?_
 exact ⟨_, qzw, by first | exact Kd.R_nil _ _ _ _ _ | exact Kd.N_nil _ _ _ _ _ | exact Kd.V_nil _ _ _ _ _ | exact Kd.Q_nil _ _ _ _ _ | exact Kd.S_nil _ _ _ _ _, qz1⟩
 }
 {
 have H' := aM H
 clear H
 go_wp2
 repeat (go_quiet (fail); try go_wp2)
 go_loopg [8] kj19 (fun kq v8 w' => ∃ (x8_4 : Int) (x249000_4 : Int) (x249001_4 : Int) (x254002_4 : List Int) (u254002 : Value), v8 = .int .i64 x8_4 ∧ Aside0 (spec_ParseFloor.l1 kq t249 x6_1 x8_4 ((rdOf ByteArray.empty t249 0).size : Int) x254001_1 x254002_4 = some (r1, r2, r3, r4)) ∧ Aside0 (kq ≤ kj19) ∧ Aside0 (Kd.R Kd.string 9 w' w.heap.size (fun _ => True) (.slice (some ad252) t249.length co6) t249) ∧ Aside0 (Kd.R (Kd.int .i64) 3 w' w.heap.size (fun _ => True) u254002 x254002_4) ∧ Aside0 (w'.heap[gb248]? = some (.cells #[.int .i64 x249000_4, .int .i64 x249001_4, (.slice none 0 0)] 43 (0, 0))) ∧ Aside0 (w'.heap[gb253]? = some (.cells #[.int .i64 ((rdOf ByteArray.empty t249 0).size : Int), .int .i64 x254001_1, u254002] 43 (0, 0))) ∧ Aside0 (Below w.heap.size w w'))
 case atStart => exact ⟨(0), (x249000_1), (x249001_1), (x254002_1), (u254002), qz6, H', ⟨Nat.le_refl _⟩, ⟨rr_ HO_4.out⟩, ⟨rr_ HO_254002.out⟩, ⟨bk_ BK248.out⟩, ⟨bk_ BK253.out⟩, ⟨qz1⟩⟩
 case round =>
 clear H'
 try clear qi2
 try clear c3
 try clear c3b0
 try clear c3b1
 try clear c10
 try clear c10b0
 try clear c15
 try clear qi25
 try clear c29
 try clear hcz9_0 hcz9_1 hcz9_2 hfz9_0 hfz9_1 hfz9_2
 try clear hx252_0
 try clear p252
 try clear q252
 obtain ⟨x8_4, x249000_4, x249001_4, x254002_4, u254002, rfl, HA, HK4, HO_4, HO_254002, BK248, BK253, HB⟩ := hrel
 cases gk with
 | zero => exact absurd HA.out (by simp [spec_ParseFloor.l1])
 | succ k4 =>
 have H := HA.out
 clear HA
 simp only [spec_ParseFloor.l1] at H
 replace H := iD_ H
 obtain ⟨c32b0, H⟩ := H
 replace H := iD_ H
 obtain ⟨c33b0, H⟩ := H
 replace H := iE_ H
 rcases H with ⟨c34b0, H⟩ | ⟨c34b0, H⟩
 {
 replace H := iD_ H
 obtain ⟨c35b0, H⟩ := H
 replace H := Option.bind_eq_some_iff.mp H
 obtain ⟨t260, A370, H⟩ := H
 have A37 := aM A370
 clear A370
 replace H := iE_ H
 rcases H with ⟨c38b0, H⟩ | ⟨c38b0, H⟩
 {
 simp only [Option.some.injEq, Prod.mk.injEq] at H
 obtain ⟨rfl, rfl, rfl, rfl⟩ := H
 have p258 : (0 ≤ (x6_1 : Int)) = True := et_
 have q258 : (x6_1 < (t249.length : Int)) = True := et_
 obtain ⟨ad258, e258, hx258_0⟩ := Kd.at_string (Kd.R_reads' HO_4.out).2.2 x6_1 dt_ dt_
 obtain rfl : ad252 = ad258 := (by injection e258)
 have p259 : (0 ≤ (x6_1 : Int)) = True := et_
 have q259 : (x6_1 < (t249.length : Int)) = True := et_
 obtain ⟨ad259, e259, hx259_0⟩ := Kd.at_string (Kd.R_reads' HO_4.out).2.2 x6_1 dt_ dt_
 obtain rfl : ad252 = ad259 := (by injection e259)
 have p36 : 0 ≤ (x8_4 : Int) := dt_
 have q36 : x8_4 < ((rdOf ByteArray.empty t249 x6_1).size : Int) := dt_
 have hx36 := bt_at (rdOf ByteArray.empty t249 x6_1) x8_4
 replace p36 := eq_true p36
 replace q36 := eq_true q36
 go_wp2_with (first | (go_at_call 127; (with_reducible refine (spec_l1Mark.calls k4 (bt (rdOf ByteArray.empty t249 x6_1) x8_4) t260 _ A37.out).mono ?_); rintro e w' ⟨rfl, ⟨nd, rfl⟩⟩; (try first | exact ⟨rfl, _, World.drewN_drewN _ _ _⟩ | exact ⟨rfl, _, Eq.trans (World.drewN_drewN _ _ _) (congrArg (World.drewN _) (Nat.add_assoc _ _ _))⟩); have hnb39 := NB248_253.out; have hnc39 := NB253_248.out; obtain ⟨hcz40_0, hcz40_1, hcz40_2, hfz40_0, hfz40_1, hfz40_2⟩ := b6_ BK248.out) | go_quiet (first | (go_at_call 127; (with_reducible refine (spec_l1Mark.calls k4 (bt (rdOf ByteArray.empty t249 x6_1) x8_4) t260 _ A37.out).mono ?_); rintro e w' ⟨rfl, ⟨nd, rfl⟩⟩; (try first | exact ⟨rfl, _, World.drewN_drewN _ _ _⟩ | exact ⟨rfl, _, Eq.trans (World.drewN_drewN _ _ _) (congrArg (World.drewN _) (Nat.add_assoc _ _ _))⟩); have hnb39 := NB248_253.out; have hnc39 := NB253_248.out; obtain ⟨hcz40_0, hcz40_1, hcz40_2, hfz40_0, hfz40_1, hfz40_2⟩ := b6_ BK248.out)))
 refine bodyPost_ret (results_ct rfl _ _ gb248 43 #[.int .i64 0, .int .i64 0, .slice none 0 0] (0, 0) _ rfl (by (with_reducible repeat (first | refine blk_drewN ?_ _ | refine blk_drew ?_ | refine blk_alloc ?_ _)); refine blk_put (cs := #[.int .i64 0, .int .i64 0, .slice none 0 0]) ?_ 2 _ rfl; (with_reducible repeat (first | refine blk_drewN ?_ _ | refine blk_drew ?_ | refine blk_alloc ?_ _)); refine blk_put (cs := #[.int .i64 0, .int .i64 x249001_4, .slice none 0 0]) ?_ 1 _ rfl; (with_reducible repeat (first | refine blk_drewN ?_ _ | refine blk_drew ?_ | refine blk_alloc ?_ _)); refine blk_put (cs := #[.int .i64 x249000_4, .int .i64 x249001_4, .slice none 0 0]) ?_ 0 _ rfl; exact bk_ BK248.out) Try.underlying43 rfl (by kernel_rfl)) rfl ?_
 exact ⟨_, qzw, by first | exact Kd.R_nil _ _ _ _ _ | exact Kd.N_nil _ _ _ _ _ | exact Kd.V_nil _ _ _ _ _ | exact Kd.Q_nil _ _ _ _ _ | exact Kd.S_nil _ _ _ _ _, qz1⟩
 }
 {
 replace H := iN_ H
 obtain ⟨c41, H⟩ := H
 have LMc41 := aM c41
 clear c41
 obtain ⟨y261, hy261⟩ : ∃ y_ : List Int, y_ = (x254002_4 ++ [t260]) := ⟨_, rfl⟩
 replace H : (spec_ParseFloor.l1 k4 t249 x6_1 (wrap64 (x8_4 + 1)) ((rdOf ByteArray.empty t249 0).size : Int) x254001_1 y261) = some (r1, r2, r3, r4) := by first | (rw [hy261]; exact H) | exact H
 have Ny261 := aM hy261
 clear hy261
 have H' := aM H
 clear H
 have p258 : (0 ≤ (x6_1 : Int)) = True := et_
 have q258 : (x6_1 < (t249.length : Int)) = True := et_
 obtain ⟨ad258, e258, hx258_0⟩ := Kd.at_string (Kd.R_reads' HO_4.out).2.2 x6_1 dt_ dt_
 obtain rfl : ad252 = ad258 := (by injection e258)
 have p259 : (0 ≤ (x6_1 : Int)) = True := et_
 have q259 : (x6_1 < (t249.length : Int)) = True := et_
 obtain ⟨ad259, e259, hx259_0⟩ := Kd.at_string (Kd.R_reads' HO_4.out).2.2 x6_1 dt_ dt_
 obtain rfl : ad252 = ad259 := (by injection e259)
 have p36 : 0 ≤ (x8_4 : Int) := dt_
 have q36 : x8_4 < ((rdOf ByteArray.empty t249 x6_1).size : Int) := dt_
 have hx36 := bt_at (rdOf ByteArray.empty t249 x6_1) x8_4
 replace p36 := eq_true p36
 replace q36 := eq_true q36
 go_wp2_with (first | (go_at_call 127; (with_reducible refine (spec_l1Mark.calls k4 (bt (rdOf ByteArray.empty t249 x6_1) x8_4) t260 _ A37.out).mono ?_); rintro e w' ⟨rfl, ⟨nd, rfl⟩⟩; (try first | exact ⟨rfl, _, World.drewN_drewN _ _ _⟩ | exact ⟨rfl, _, Eq.trans (World.drewN_drewN _ _ _) (congrArg (World.drewN _) (Nat.add_assoc _ _ _))⟩); have hnb42 := NB253_248.out; have hnc42 := NB248_253.out; obtain ⟨hcz43_0, hcz43_1, hcz43_2, hfz43_0, hfz43_1, hfz43_2⟩ := b6_ BK253.out) | ((with_reducible refine gate_builtin (b := .append) (xs := #[.tmp 87, .tmp 89]) rfl ?_); (try (refine gate_guard (by rfl) ?_; dsimp only)); at_builtin; refine Kd.R_append (Kd.int .i64) (w0 := w) w.heap.size rfl (.tmp 87) (.tmp 89) 24 3 (.int .i64 0) 8 rfl Try.underlying24 info3 rfl (by decide) (by omega) u254002 x254002_4 t260 [.int .i64 t260] (fun _ => True) (fun _ => False) rfl rfl ?aP (fun _ hk => hk.elim) ?aF ?aO ?aB ?aS ?aL ?_; (case aP => exact rfl); (case aB => exact qz1); (case aF => exact qz12); (case aO => exact (rr_ HO_254002.out)); (case aS => exact qz19); (case aL => have := LMc41.out; omega); intro v262 w44 ho hb hg hat; rw [← Ny261.out] at ho; replace HO_4 := aM (Kd.R_over' (rr_ HO_4.out) (Kd.R_typed (rr_ HO_254002.out)) (by decide) hg); replace BK248 := aM (blk_grown (bk_ BK248.out) hg (Kd.R_ne HO_254002.out BK248.out (by decide))); replace BK253 := aM (blk_grown (bk_ BK253.out) hg (Kd.R_ne HO_254002.out BK253.out (by decide))); replace HB := aM (hb); have HO263 := aM (ho); clear HO_254002; clear ho hb hg hat; obtain ⟨Ao45, co45, eo45⟩ := Kd.R_slice HO263.out; subst eo45; obtain ⟨hcz46_0, hcz46_1, hcz46_2, hfz46_0, hfz46_1, hfz46_2⟩ := b6_ BK253.out) | go_quiet (first | (go_at_call 127; (with_reducible refine (spec_l1Mark.calls k4 (bt (rdOf ByteArray.empty t249 x6_1) x8_4) t260 _ A37.out).mono ?_); rintro e w' ⟨rfl, ⟨nd, rfl⟩⟩; (try first | exact ⟨rfl, _, World.drewN_drewN _ _ _⟩ | exact ⟨rfl, _, Eq.trans (World.drewN_drewN _ _ _) (congrArg (World.drewN _) (Nat.add_assoc _ _ _))⟩); have hnb42 := NB253_248.out; have hnc42 := NB248_253.out; obtain ⟨hcz43_0, hcz43_1, hcz43_2, hfz43_0, hfz43_1, hfz43_2⟩ := b6_ BK253.out)))
 go_roundg k4
 case measure => have := HK1.out; have := HJ10.out; have := HJ19.out; have := HK4.out; omega
 case rel => exact ⟨(wrap64 (x8_4 + 1)), (x249000_4), (x249001_4), (y261), (.slice Ao45 y261.length co45), qz6, H', ⟨by have := HK1.out; have := HJ10.out; have := HJ19.out; have := HK4.out; omega⟩, ⟨by (with_reducible repeat (first | apply Kd.R_alloc | apply Kd.R_drewN | apply Kd.R_drew)); exact Kd.R_mono (Kd.R_far (p := ⟨gb253, 2, none⟩) (Kd.R_types HO_4.out BK253.out (by decide)) (fun _ hk => hk.2) (.slice Ao45 y261.length co45)) (fun _ hk => trivial)⟩, ⟨by (with_reducible repeat (first | apply Kd.R_alloc | apply Kd.R_drewN | apply Kd.R_drew)); exact Kd.R_mono (Kd.R_far (p := ⟨gb253, 2, none⟩) (Kd.R_types HO263.out BK253.out (by decide)) (fun _ hk => hk.2) (.slice Ao45 y261.length co45)) (fun _ hk => trivial)⟩, ⟨by (with_reducible repeat (first | refine blk_drewN ?_ _ | refine blk_drew ?_ | refine blk_alloc ?_ _)); refine blk_far ?_ NB248_253.out _; exact bk_ BK248.out⟩, ⟨by (with_reducible repeat (first | refine blk_drewN ?_ _ | refine blk_drew ?_ | refine blk_alloc ?_ _)); refine blk_put (cs := #[.int .i64 ((rdOf ByteArray.empty t249 0).size : Int), .int .i64 x254001_1, u254002]) ?_ 2 _ rfl; exact bk_ BK253.out⟩, ⟨qz1⟩⟩
 }
 }
 {
 have H' := aM H
 clear H
 have p258 : (0 ≤ (x6_1 : Int)) = True := et_
 have q258 : (x6_1 < (t249.length : Int)) = True := et_
 obtain ⟨ad258, e258, hx258_0⟩ := Kd.at_string (Kd.R_reads' HO_4.out).2.2 x6_1 dt_ dt_
 obtain rfl : ad252 = ad258 := (by injection e258)
 have hnb47 := NB253_248.out
 have hnc47 := NB248_253.out
 obtain ⟨hcz48_0, hcz48_1, hcz48_2, hfz48_0, hfz48_1, hfz48_2⟩ := b6_ BK253.out
 go_wp2
 repeat (go_quiet (fail); try go_wp2)
 go_roundg k4
 case measure => have := HK1.out; have := HJ10.out; have := HJ19.out; have := HK4.out; omega
 case rel => exact ⟨(wrap64 (x6_1 + 1)), (x249000_4), (x249001_4), (wrap64 (x254001_1 + 1)), (x254002_4), (u254002), qz6, H', ⟨by have := HK1.out; have := HJ10.out; have := HJ19.out; have := HK4.out; omega⟩, ⟨by (with_reducible repeat (first | apply Kd.R_alloc | apply Kd.R_drewN | apply Kd.R_drew)); exact Kd.R_mono (Kd.R_far (p := ⟨gb253, 1, none⟩) (Kd.R_types HO_4.out BK253.out (by decide)) (fun _ hk => hk.2) (.int .i64 (wrap64 (x254001_1 + 1)))) (fun _ hk => trivial)⟩, ⟨by (with_reducible repeat (first | apply Kd.R_alloc | apply Kd.R_drewN | apply Kd.R_drew)); exact Kd.R_mono (Kd.R_far (p := ⟨gb253, 1, none⟩) (Kd.R_types HO_254002.out BK253.out (by decide)) (fun _ hk => hk.2) (.int .i64 (wrap64 (x254001_1 + 1)))) (fun _ hk => trivial)⟩, ⟨by (with_reducible repeat (first | refine blk_drewN ?_ _ | refine blk_drew ?_ | refine blk_alloc ?_ _)); refine blk_far ?_ NB248_253.out _; exact bk_ BK248.out⟩, ⟨by (with_reducible repeat (first | refine blk_drewN ?_ _ | refine blk_drew ?_ | refine blk_alloc ?_ _)); refine blk_put (cs := #[.int .i64 ((rdOf ByteArray.empty t249 0).size : Int), .int .i64 x254001_1, u254002]) ?_ 1 _ rfl; exact bk_ BK253.out⟩, ⟨qz1⟩⟩
 }
 }
 }
 }
 {
 simp only [Option.some.injEq, Prod.mk.injEq] at H
 obtain ⟨rfl, rfl, rfl, rfl⟩ := H
 have hnb49 := NB253_248.out
 have hnc49 := NB248_253.out
 obtain ⟨hcz50_0, hcz50_1, hcz50_2, hfz50_0, hfz50_1, hfz50_2⟩ := b6_ BK253.out
 obtain ⟨hcz51_0, hcz51_1, hcz51_2, hfz51_0, hfz51_1, hfz51_2⟩ := b6_ BK248.out
 obtain ⟨Ao52, co52, eo52⟩ := Kd.R_slice HO_254002.out
 subst eo52
 go_wp2
 repeat (go_quiet (fail); try go_wp2)
 refine bodyPost_ret (results_ct rfl _ _ gb248 43 #[.int .i64 ((rdOf ByteArray.empty t249 0).size : Int), .int .i64 x254001_1, .slice Ao52 x254002_1.length co52] (0, 0) _ rfl (by (with_reducible repeat (first | refine blk_drewN ?_ _ | refine blk_drew ?_ | refine blk_alloc ?_ _)); refine blk_put (cs := #[.int .i64 ((rdOf ByteArray.empty t249 0).size : Int), .int .i64 x254001_1, .slice none 0 0]) ?_ 2 _ rfl; (with_reducible repeat (first | refine blk_drewN ?_ _ | refine blk_drew ?_ | refine blk_alloc ?_ _)); refine blk_put (cs := #[.int .i64 ((rdOf ByteArray.empty t249 0).size : Int), .int .i64 x249001_1, .slice none 0 0]) ?_ 1 _ rfl; (with_reducible repeat (first | refine blk_drewN ?_ _ | refine blk_drew ?_ | refine blk_alloc ?_ _)); refine blk_put (cs := #[.int .i64 x249000_1, .int .i64 x249001_1, .slice none 0 0]) ?_ 0 _ rfl; exact bk_ BK248.out) Try.underlying43 rfl (by kernel_rfl)) rfl ?_
 exact ⟨_, qzw, by (with_reducible repeat (first | apply Kd.R_alloc | apply Kd.R_drewN | apply Kd.R_drew)); exact Kd.R_mono (Kd.R_far (p := ⟨gb248, 2, none⟩) (Kd.R_far (p := ⟨gb248, 1, none⟩) (Kd.R_far (p := ⟨gb248, 0, none⟩) (Kd.R_types HO_254002.out BK248.out (by decide)) (fun _ hk => hk.2) (.int .i64 ((rdOf ByteArray.empty t249 0).size : Int))) (fun _ hk => hk.2) (.int .i64 x254001_1)) (fun _ hk => hk.2) (.slice Ao52 x254002_1.length co52)) (fun _ hk => trivial), qz1⟩
 }
/-! ### spec_l1Str: function 107 -/
def spec_l1Str.f (s0_0 : List Int) (s0_1 : Int) (s0_2 : Int) (l1 : List ByteArray) : Option (ByteArray × Int × Int) := (spec_l1Below.f s0_0 s0_1 s0_2 (l1.length : Int)).bind fun bt264 => (if 0 ≤ bt264.1 then (if bt264.1 < (l1.length : Int) then (some (rdOf ByteArray.empty l1 bt264.1, bt264.2.1, bt264.2.2)) else (none)) else (none))
set_option maxHeartbeats 8000000 in
set_option maxRecDepth 100000 in
theorem spec_l1Str.calls (g : Nat) (s0_0 : List Int) (s0_1 : Int) (s0_2 : Int) (A1 : Option Addr) (c1 : Nat) (l1 : List ByteArray) (r1 : ByteArray) (r2 : Int) (r3 : Int) (w0 w : World) (hI : IsS113 w0 w g s0_0 s0_1 s0_2) (hB : Below w0.heap.size w0 w) (hr1 : Kd.C Kd.string w A1 l1.length l1) (hc1 : l1.length ≤ c1) (hf1 : ∀ ad, A1 = some ad → 0 < l1.length → ad.block ≠ g) (h : spec_l1Str.f s0_0 s0_1 s0_2 l1 = some (r1, r2, r3)) :
  Calls Try.prog 107 #[.pointer (some ⟨g, 0, none⟩), .slice A1 l1.length c1] w fun e w' => e = .returned (.string r1) ∧ IsS113 w0 w' g s0_0 r2 r3 ∧ Below w0.heap.size w0 w' ∧ KeepBut w w' g none := by
 have HR1 := aM hr1
 have HC1 := aM hc1
 clear hr1 hc1
 have HI0 := aM hI
 have HK := aM (KeepBut.refl w g none)
 have HL := aM hB.size
 clear hI
 have HW0 := aM hB.size
 have HB := aM hB
 clear hB
 unfold spec_l1Str.f at h
 have H := h
 clear h
 replace H := Option.bind_eq_some_iff.mp H
 obtain ⟨⟨t264, t265, t266⟩, A30, H⟩ := H
 try dsimp only at H
 have A3 := aM A30
 clear A30
 replace H := iD_ H
 obtain ⟨c4b0, H⟩ := H
 replace H := iD_ H
 obtain ⟨c5b0, H⟩ := H
 simp only [Option.some.injEq, Prod.mk.injEq] at H
 obtain ⟨rfl, rfl, rfl⟩ := H
 go_enter Try.func107, Try.ntmps107
 go_wp2_with (first | ((with_reducible refine gate_callee (f := 73) rfl ?_); refine goesL_ (some 9) rfl rfl Try.func73 (by kernel_rfl) rfl #[.pointer (some ⟨g, 0, none⟩), .int .i64 (l1.length : Int)] rfl qz2 ?_; (with_reducible refine (spec_l1Below.calls g s0_0 s0_1 s0_2 (l1.length : Int) t264 t265 t266 w0 _ ?_ ?_ A3.out).mono ?_); exact qz4; exact qz1; rintro e w6 ⟨rfl, hi, hb, hk⟩; refine ⟨_, rfl, ?_⟩; replace HK := aM (KeepBut.trans qz3 hk (.inl rfl)); replace HB := aM (hb); replace HI0 := aM (hi); (try clear hb hk hi); have p267 : 0 ≤ (t264 : Int) := dt_; have q267 : t264 < (l1.length : Int) := dt_; obtain ⟨ad267, e267, hx267_0⟩ := Kd.at_string HR1.out t264 p267 q267; cases e267; replace hx267_0 := keep_cell HK.out hx267_0 (by first | (rw [add_block]; exact hf1 _ rfl (by omega)) | exact hf1 _ rfl (by omega) | exact hf1 ad267 rfl (by omega)); replace p267 := eq_true p267; replace q267 := eq_true q267))
 go_ret
 exact ⟨qzw, qz4, qz1, qz3⟩
end Go.Proofs.Ytankmdbbgepmbaa.PFnLively
