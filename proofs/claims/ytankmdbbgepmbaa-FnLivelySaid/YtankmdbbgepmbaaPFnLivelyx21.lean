-- Made by a program of this session out of the translation. Lean checks it.
import Derived.Test.YtankmdbbgepmbaaPFnLivelyx20
namespace Go.Proofs.Ytankmdbbgepmbaa.PFnLively
open Go.RowKit Go.Proofs.YtankmdbbgepmbaaW.PrintWords Go.Proofs.YtankmdbbgepmbaaW.PrintLast Go.Proofs.YtankmdbbgepmbaaW.PrintMore
attribute [local go_sem] max2_int min2_int max_two min_two max_three min_three max_four min_four   -- for this text's walks alone
set_option linter.unusedVariables false
set_option linter.unusedSimpArgs false

/-! ### impl_copyFloor: function 130 -/
def impl_copyFloor.f (a0_0 : Int) (a0_1 : Int) (l0_2 : List Int) : Option (Int × Int × List Int) := (impl_copyInts.f l0_2).bind fun t491 => (some (a0_0, a0_1, t491))
def impl_copyFloor.T1 : Bool × List (List Nat × List Nat) := (true, [([], []), ([0], [0]), ([], []), ([2], [2]), ([], []), ([4], [4]), ([5], [5]), ([1, 3, 6], [1, 3, 6]), ([7, 6, 0, 1, 2, 3, 4, 5, 6, 7], [7])])
def impl_copyFloor.B1 : List Nat := [0, 1, 0, 4, 0, 16, 48, 127, 255]
theorem impl_copyFloor.tab1 : rtab .any (opsOf Try.f130 1) = impl_copyFloor.T1 := by kernel_rfl
theorem impl_copyFloor.bits1 : waitsOk impl_copyFloor.T1.2 impl_copyFloor.B1 = true := by kernel_rfl
set_option maxHeartbeats 8000000 in
set_option maxRecDepth 100000 in
theorem impl_copyFloor.calls (a0_0 : Int) (a0_1 : Int) (A0_2 : Option Addr) (c0_2 : Nat) (l0_2 : List Int) (r1 : Int) (r2 : Int) (r3 : List Int) (w : World) (hr0_2 : Kd.C (Kd.int .i64) w A0_2 l0_2.length l0_2) (hc0_2 : l0_2.length ≤ c0_2) (h : impl_copyFloor.f a0_0 a0_1 l0_2 = some (r1, r2, r3)) :
  Calls Try.prog 130 #[.agg #[.int .i64 a0_0, .int .i64 a0_1, .slice A0_2 l0_2.length c0_2]] w fun e w' => ∃ v2_ : Value, e = .returned (.agg #[.int .i64 r1, .int .i64 r2, v2_]) ∧ Kd.R (Kd.int .i64) 3 w' w.heap.size (fun _ => True) v2_ r3 ∧ Below w.heap.size w w' := by
 have hu43 := Try.underlying43
 have HR0_2 := aM hr0_2
 have HC0_2 := aM hc0_2
 clear hr0_2 hc0_2
 have HB := aM (Below.refl w.heap.size w)
 unfold impl_copyFloor.f at h
 have H := h
 clear h
 replace H := Option.bind_eq_some_iff.mp H
 obtain ⟨t491, A20, H⟩ := H
 have A2 := aM A20
 clear A20
 simp only [Option.some.injEq, Prod.mk.injEq] at H
 obtain ⟨rfl, rfl, rfl⟩ := H
 go_enter Try.func130, Try.ntmps130
 try go_wp2_with (first | ((with_reducible refine gate_dst (N := 1) rfl ?_); refine bx_ 1 #[.int .i64 a0_0, .int .i64 a0_1, .slice A0_2 l0_2.length c0_2] 43 ?_; intro gb489 hg w3 hbox hb; have BK489 := aM (hbox); have GW489 := aM (bz_ w hg qz1); have GE489 := GW489; replace HB := bS_ hb; clear hb hbox hg) | ((with_reducible refine gate_dst (N := 2) rfl ?_); refine bx_ 2 #[.int .i64 0, .int .i64 0, .slice none 0 0] 43 ?_; intro gb490 hg w4 hbox hb; have BK490 := aM (hbox); have GW490 := aM (bz_ w hg qz1); have GE490 := GW490; replace HB := bS_ hb; obtain ⟨NB489_490, NB490_489⟩ := nb_ hg (bk_ BK489.out); replace BK489 := bB_ BK489 hb; clear hb hbox hg))
 replace BK489 := aM (blk_drew BK489.out)
 replace BK490 := aM (blk_drew BK490.out)
 replace HB := aM (below_drew1 HB.out)
 refine start_ (n := 9) (S := fun w' => w'.cell? ⟨gb489, 0, none⟩ = some (.int .i64 a0_0) ∧ w'.cell? ⟨gb489, 1, none⟩ = some (.int .i64 a0_1) ∧ w'.cell? ⟨gb489, 2, none⟩ = some (.slice A0_2 l0_2.length c0_2)) (ds := []) #[false, false, false, false, false, false, false, false, false] (by kernel_rfl) rfl rfl ⟨(blk_cell BK489.out 0).trans rfl, (blk_cell BK489.out 1).trans rfl, (blk_cell BK489.out 2).trans rfl⟩ (fun hHeld => ?_); refine with_tabW impl_copyFloor.tab1 impl_copyFloor.bits1 (fun HT_ HW_ => ?_)
 generalize w4.drew = w5 at BK489 BK490 HB hHeld ⊢
 refine pI_ 0 3 (bqz 9 1) ?_
 refine jI_ 2 5 ?_
 refine jI_ 4 7 ?_
 refine sI3_ 1 4 ?_
 refine sI3_ 3 6 ?_
 refine sI3_ 5 8 ?_
 refine oI_ 6 9 (bqz 9 127) (fun K hK => ?_)
 refine goes_ Try.func133 (by kernel_rfl) rfl #[.slice A0_2 l0_2.length c0_2] (by rfl) rfl rfl qz2 ?_
 with_reducible refine (impl_copyInts.calls _ _ l0_2 t491 _ ?side1 ?side2 A2.out).mono ?_
 (case side1 => exact qz5)
 (case side2 => exact qz14)
 rintro e w6 ⟨v492, rfl, ho0, hb⟩
 refine ⟨_, rfl, ?_⟩
 have HO493 := aM (Kd.R_lower ho0 (below_size qz1))
 replace BK489 := bB_ BK489 hb
 replace BK490 := bB_ BK490 hb
 replace HB := bS_ hb
 (try clear hb)
 (try clear hb2)
 (try clear hk)
 (try clear hi)
 (try clear ho0)
 obtain ⟨Ao7, co7, eo7⟩ := Kd.R_slice HO493.out
 (first | subst eo7 | (injection eo7 with f1_ f2_ f3_; have f4_ := f1_.symm; have f5_ := f3_.symm; clear f1_ f2_ f3_; subst f4_; subst f5_))
 refine hK.out _ _ ⟨(blk_cell BK489.out 0).trans rfl, (blk_cell BK489.out 1).trans rfl, (blk_cell BK489.out 2).trans rfl⟩ (fun hHeld => ?_)
 clear hK K
 refine nm_ 9 ?_
 refine pI_ 7 10 (bqz 9 255) ?_
 refine one_ (i := 8) (N := none) (bqz 9 511) rfl rfl qzc (by decide) (fun K hK => ?_)
 have hs8 : w6.cell? ⟨gb490, 0, none⟩ = some (.int .i64 0) := (blk_cell BK490.out 0).trans rfl
 have hfs8 := blk_frozen BK490.out 0
 have hns8_0 := NB489_490.out
 have hms8_0 := NB490_489.out
 have hs9 : w6.cell? ⟨gb490, 1, none⟩ = some (.int .i64 0) := (blk_cell BK490.out 1).trans rfl
 have hfs9 := blk_frozen BK490.out 1
 have hns9_0 := NB489_490.out
 have hms9_0 := NB490_489.out
 have hs10 : w6.cell? ⟨gb490, 2, none⟩ = some (.slice none 0 0) := (blk_cell BK490.out 2).trans rfl
 have hfs10 := blk_frozen BK490.out 2
 have hns10_0 := NB489_490.out
 have hms10_0 := NB490_489.out
 refine sk_ ?_
 refine hK.out _ _ ⟨((cell_far (p := ⟨gb490, _, none⟩) NB489_490.out _).trans (((cell_far (p := ⟨gb490, _, none⟩) NB489_490.out _).trans (((cell_far (p := ⟨gb490, _, none⟩) NB489_490.out _).trans (hHeld.1)))))), ((cell_far (p := ⟨gb490, _, none⟩) NB489_490.out _).trans (((cell_far (p := ⟨gb490, _, none⟩) NB489_490.out _).trans (((cell_far (p := ⟨gb490, _, none⟩) NB489_490.out _).trans (hHeld.2.1)))))), ((cell_far (p := ⟨gb490, _, none⟩) NB489_490.out _).trans (((cell_far (p := ⟨gb490, _, none⟩) NB489_490.out _).trans (((cell_far (p := ⟨gb490, _, none⟩) NB489_490.out _).trans (hHeld.2.2))))))⟩ (fun hHeld => ?_)
 clear hK K
 refine done_ (done_of HT_.out (by kernel_rfl)) ?_
 try go_wp2
 refine bodyPost_ret (results_cell_row rfl _ _ gb490 43 #[.int .i64 a0_0, .int .i64 a0_1, .slice Ao7 t491.length co7] (0, 0) _ rfl (by (with_reducible repeat (first | refine blk_drewN ?_ _ | refine blk_drew ?_ | refine blk_alloc ?_ _)); refine blk_put (cs := #[.int .i64 a0_0, .int .i64 a0_1, .slice none 0 0]) ?_ 2 _ rfl; (with_reducible repeat (first | refine blk_drewN ?_ _ | refine blk_drew ?_ | refine blk_alloc ?_ _)); refine blk_put (cs := #[.int .i64 a0_0, .int .i64 0, .slice none 0 0]) ?_ 1 _ rfl; (with_reducible repeat (first | refine blk_drewN ?_ _ | refine blk_drew ?_ | refine blk_alloc ?_ _)); refine blk_put (cs := #[.int .i64 0, .int .i64 0, .slice none 0 0]) ?_ 0 _ rfl; exact bk_ BK490.out) Try.underlying43 rfl (by kernel_rfl)) rfl ?_
 exact ⟨_, qzw, by (with_reducible repeat (first | apply Kd.R_alloc | apply Kd.R_drewN | apply Kd.R_drew)); exact Kd.R_mono (Kd.R_far (p := ⟨gb490, 2, none⟩) (Kd.R_far (p := ⟨gb490, 1, none⟩) (Kd.R_far (p := ⟨gb490, 0, none⟩) (Kd.R_types HO493.out BK490.out (by decide)) (fun _ hk => hk.2) (.int .i64 a0_0)) (fun _ hk => hk.2) (.int .i64 a0_1)) (fun _ hk => hk.2) (.slice Ao7 t491.length co7)) (fun _ hk => trivial), qz1⟩

/-! ### impl_parts: function 111 -/
def impl_parts.f (k : Nat) (a0_0 : Int) (a0_1 : Int) (l0_2 : List Int) (a1 : Int) : Option (Bool) := (impl_near.f k a0_0 a0_1 l0_2 a1 false).bind fun t495 => (if (t495.length : Int) = 0 then (some false) else ((impl_reach.f k a0_0 a0_1 l0_2 a1).bind fun t498 => ((impl_copyFloor.f a0_0 a0_1 l0_2).bind fun bt499 => (if 0 ≤ a1 then (if a1 < (bt499.2.2.length : Int) then (if 0 < (t495.length : Int) then ((impl_reach.f k bt499.1 bt499.2.1 (bt499.2.2.set (a1 : Int).toNat 0) (rd t495 0)).bind fun t507 => (some (t507 != (wrap64 (t498 - 1))))) else (none)) else (none)) else (none)))))
theorem impl_parts.mono : ∀ a0 a1 a2 a3 k, LeO (impl_parts.f k a0 a1 a2 a3) (impl_parts.f (k + 1) a0 a1 a2 a3) := by
 intro a0 a1 a2 a3 k
 unfold impl_parts.f
 have j0 := @impl_near.mono
 have j1 := @impl_reach.mono
 exact qL
def impl_parts.T7 : Bool × List (List Nat × List Nat) := (true, [([], []), ([], []), ([1], [1]), ([2], [2]), ([0, 3], [0, 3]), ([], []), ([4, 5], [4, 5]), ([6, 4, 0, 1, 2, 3, 4, 5, 6], [6])])
def impl_parts.B7 : List Nat := [0, 0, 2, 6, 15, 0, 63, 127]
theorem impl_parts.tab7 : rtab .any (opsOf Try.f111 7) = impl_parts.T7 := by kernel_rfl
theorem impl_parts.bits7 : waitsOk impl_parts.T7.2 impl_parts.B7 = true := by kernel_rfl
set_option maxHeartbeats 8000000 in
set_option maxRecDepth 100000 in
theorem impl_parts.calls (k : Nat) (a0_0 : Int) (a0_1 : Int) (A0_2 : Option Addr) (c0_2 : Nat) (l0_2 : List Int) (a1 : Int) (r : Bool) (w : World) (hr0_2 : Kd.C (Kd.int .i64) w A0_2 l0_2.length l0_2) (hc0_2 : l0_2.length ≤ c0_2) (h : impl_parts.f k a0_0 a0_1 l0_2 a1 = some r) :
  Calls Try.prog 111 #[.agg #[.int .i64 a0_0, .int .i64 a0_1, .slice A0_2 l0_2.length c0_2], .int .i64 a1] w fun e w' => e = .returned (.bool r) ∧ Below w.heap.size w w' := by
 have hu43 := Try.underlying43
 have HR0_2 := aM hr0_2
 have HC0_2 := aM hc0_2
 clear hr0_2 hc0_2
 have HB := aM (Below.refl w.heap.size w)
 unfold impl_parts.f at h
 have H := h
 clear h
 replace H := Option.bind_eq_some_iff.mp H
 obtain ⟨t495, A30, H⟩ := H
 have A3 := aM A30
 clear A30
 replace H := iQ_ H
 rcases H with ⟨c4b0, c4b1, H⟩ | ⟨c4, c4b0, c4b1, H⟩
 {
 obtain rfl := Option.some.inj H
 go_enter Try.func111, Try.ntmps111
 go_wp2_with (first | ((with_reducible refine gate_dst (N := 2) rfl ?_); refine bx_ 2 #[.int .i64 a0_0, .int .i64 a0_1, .slice A0_2 l0_2.length c0_2] 43 ?_; intro gb494 hg w5 hbox hb; have BK494 := aM (hbox); have GW494 := aM (bz_ w hg qz1); have GE494 := GW494; replace HB := bS_ hb; clear hb hbox hg; obtain ⟨hcz6_0, hcz6_1, hcz6_2, hfz6_0, hfz6_1, hfz6_2⟩ := b6_ BK494.out) | ((with_reducible refine gate_callee (f := 66) rfl ?_); refine goesL_ (some 10) rfl rfl Try.func66 (by kernel_rfl) rfl #[.agg #[.int .i64 a0_0, .int .i64 a0_1, .slice A0_2 l0_2.length c0_2], .int .i64 a1, .bool false] rfl qz2 ?_; (with_reducible refine (impl_near.calls k a0_0 a0_1 _ _ l0_2 a1 false t495 _ ?_ ?_ A3.out).mono ?_); exact qz5; exact qz14; rintro e w7 ⟨v496, rfl, ho0, hb⟩; refine ⟨_, rfl, ?_⟩; have HO497 := aM (Kd.R_lower ho0 (below_size qz1)); replace BK494 := bB_ BK494 hb; replace HB := bS_ hb; (try clear hb ho0); obtain ⟨Ao8, co8, eo8⟩ := Kd.R_slice HO497.out; subst eo8))
 go_ret
 exact ⟨qzw, qz1⟩
 }
 {
 have c4b2 : ¬ (t495 = []) := fun h_ => c4 (by rw [h_]; rfl)
 replace H := Option.bind_eq_some_iff.mp H
 obtain ⟨t498, A90, H⟩ := H
 have A9 := aM A90
 clear A90
 replace H := Option.bind_eq_some_iff.mp H
 obtain ⟨⟨t499, t500, t501⟩, A100, H⟩ := H
 try dsimp only at H
 have A10 := aM A100
 clear A100
 replace H := iD_ H
 obtain ⟨c11b0, H⟩ := H
 replace H := iD_ H
 obtain ⟨c12b0, H⟩ := H
 obtain ⟨y505, hy505⟩ : ∃ y_ : List Int, y_ = (t501.set (a1 : Int).toNat 0) := ⟨_, rfl⟩
 replace H : (if 0 < (t495.length : Int) then ((impl_reach.f k t499 t500 y505 (rd t495 0)).bind fun t507 => (some (t507 != (wrap64 (t498 - 1))))) else (none)) = some r := by first | (rw [hy505]; exact H) | exact H
 have Ny505 := aM hy505
 clear hy505
 replace H := iN_ H
 obtain ⟨c14, H⟩ := H
 have c14b0 := decide_eq_true c14
 have c14b1 : decide (0 < t495.length) = true := decide_eq_true (by omega)
 clear c14
 replace H := Option.bind_eq_some_iff.mp H
 obtain ⟨t507, A150, H⟩ := H
 have A15 := aM A150
 clear A150
 obtain rfl := Option.some.inj H
 go_enter Try.func111, Try.ntmps111
 try go_wp2_with (first | ((with_reducible refine gate_dst (N := 2) rfl ?_); refine bx_ 2 #[.int .i64 a0_0, .int .i64 a0_1, .slice A0_2 l0_2.length c0_2] 43 ?_; intro gb494 hg w16 hbox hb; have BK494 := aM (hbox); have GW494 := aM (bz_ w hg qz1); have GE494 := GW494; replace HB := bS_ hb; clear hb hbox hg; obtain ⟨hcz17_0, hcz17_1, hcz17_2, hfz17_0, hfz17_1, hfz17_2⟩ := b6_ BK494.out) | ((with_reducible refine gate_callee (f := 66) rfl ?_); refine goesL_ (some 10) rfl rfl Try.func66 (by kernel_rfl) rfl #[.agg #[.int .i64 a0_0, .int .i64 a0_1, .slice A0_2 l0_2.length c0_2], .int .i64 a1, .bool false] rfl qz2 ?_; (with_reducible refine (impl_near.calls k a0_0 a0_1 _ _ l0_2 a1 false t495 _ ?_ ?_ A3.out).mono ?_); exact qz5; exact qz14; rintro e w18 ⟨v496, rfl, ho0, hb⟩; refine ⟨_, rfl, ?_⟩; have HO497 := aM (Kd.R_lower ho0 (below_size qz1)); replace BK494 := bB_ BK494 hb; replace HB := bS_ hb; (try clear hb ho0); obtain ⟨Ao19, co19, eo19⟩ := Kd.R_slice HO497.out; subst eo19; obtain ⟨hcz20_0, hcz20_1, hcz20_2, hfz20_0, hfz20_1, hfz20_2⟩ := b6_ BK494.out) | ((with_reducible refine gate_callee (f := 110) rfl ?_); refine goesL_ (some 16) rfl rfl Try.func110 (by kernel_rfl) rfl #[.agg #[.int .i64 a0_0, .int .i64 a0_1, .slice A0_2 l0_2.length c0_2], .int .i64 a1] rfl qz2 ?_; (with_reducible refine (impl_reach.calls k a0_0 a0_1 _ _ l0_2 a1 t498 _ ?_ ?_ A9.out).mono ?_); exact qz5; exact qz14; rintro e w21 ⟨rfl, hb⟩; refine ⟨_, rfl, ?_⟩; replace HO497 := aM (Kd.R_below (rr_ HO497.out) hb); replace BK494 := bB_ BK494 hb; replace HB := bS_ hb; (try clear hb); obtain ⟨hcz22_0, hcz22_1, hcz22_2, hfz22_0, hfz22_1, hfz22_2⟩ := b6_ BK494.out) | ((with_reducible refine gate_callee (f := 130) rfl ?_); refine goesL_ (some 19) rfl rfl Try.func130 (by kernel_rfl) rfl #[.agg #[.int .i64 a0_0, .int .i64 a0_1, .slice A0_2 l0_2.length c0_2]] rfl qz2 ?_; (with_reducible refine (impl_copyFloor.calls a0_0 a0_1 _ _ l0_2 t499 t500 t501 _ ?_ ?_ A10.out).mono ?_); exact qz5; exact qz14; rintro e w23 ⟨v502, rfl, ho0, hb⟩; refine ⟨_, rfl, ?_⟩; have HO503 := aM (Kd.R_lower (Kd.R_new' ho0 (Kd.R_lt (rr_ HO497.out))) (below_size qz1)); replace HO497 := aM (Kd.R_elder' (rr_ HO497.out) (Kd.R_base ho0) hb); replace BK494 := bB_ BK494 hb; replace HB := bS_ hb; (try clear hb ho0)) | ((with_reducible refine gate_dst (N := 7) rfl ?_); refine bx_ 7 #[.int .i64 0, .int .i64 0, .slice none 0 0] 43 ?_; intro gb504 hg w24 hbox hb; replace HO497 := aM (Kd.R_below (rr_ HO497.out) hb); replace HO503 := aM (Kd.R_below (rr_ HO503.out) hb); have BK504 := aM (hbox); have GW504 := aM (bz_ w hg qz1); have GE504 := GW504; replace HB := bS_ hb; obtain ⟨NB494_504, NB504_494⟩ := nb_ hg (bk_ BK494.out); replace BK494 := bB_ BK494 hb; clear hb hbox hg; have hnb25 := NB504_494.out; have hnc25 := NB494_504.out; obtain ⟨hcz26_0, hcz26_1, hcz26_2, hfz26_0, hfz26_1, hfz26_2⟩ := b6_ BK504.out; obtain ⟨Ao27, co27, eo27⟩ := Kd.R_slice HO503.out; subst eo27) | ((with_reducible refine gate_store (t := 43) (p := 7) rfl ?_); refine store_event (t := 43) (p := 7) (v := ?vo_w28) (w1 := (((w24.setCell ⟨gb504, 0, none⟩ (.int .i64 t499)).setCell ⟨gb504, 1, none⟩ (.int .i64 t500)).setCell ⟨gb504, 2, none⟩ (.slice Ao27 t501.length co27))) ?hg ?ho ?hn ?hr ?_; (case ho => rfl); (case hg => rfl); (case hn => rfl); (case hr => exact qz7); intro w28 hw; replace HO497 : Aside0 (Kd.R (Kd.int .i64) 3 w28 w.heap.size (fun k_ => some k_ ≠ (.slice Ao27 t501.length co27 : Value).ownBlock) (.slice Ao19 t495.length co19) t495) := ⟨(by rw [hw]; exact (by (with_reducible repeat (first | apply Kd.R_alloc | apply Kd.R_drewN | apply Kd.R_drew)); exact Kd.R_mono (Kd.R_far (p := ⟨gb504, 2, none⟩) (Kd.R_far (p := ⟨gb504, 1, none⟩) (Kd.R_far (p := ⟨gb504, 0, none⟩) (Kd.R_types HO497.out BK504.out (by decide)) (fun _ hk => hk.2) (.int .i64 t499)) (fun _ hk => hk.2) (.int .i64 t500)) (fun _ hk => hk.2) (.slice Ao27 t501.length co27)) (fun _ hk => hk.1.2)))⟩; replace HO503 : Aside0 (Kd.R (Kd.int .i64) 3 w28 w.heap.size (fun k_ => some k_ ≠ (.slice Ao19 t495.length co19 : Value).ownBlock) (.slice Ao27 t501.length co27) t501) := ⟨(by rw [hw]; exact (by (with_reducible repeat (first | apply Kd.R_alloc | apply Kd.R_drewN | apply Kd.R_drew)); exact Kd.R_mono (Kd.R_far (p := ⟨gb504, 2, none⟩) (Kd.R_far (p := ⟨gb504, 1, none⟩) (Kd.R_far (p := ⟨gb504, 0, none⟩) (Kd.R_types HO503.out BK504.out (by decide)) (fun _ hk => hk.2) (.int .i64 t499)) (fun _ hk => hk.2) (.int .i64 t500)) (fun _ hk => hk.2) (.slice Ao27 t501.length co27)) (fun _ hk => hk.1.2)))⟩; replace BK494 : Aside0 (w28.heap[gb494]? = some (.cells #[.int .i64 a0_0, .int .i64 a0_1, .slice A0_2 l0_2.length c0_2] 43 (0, 0))) := ⟨(by rw [hw]; exact (bk2_ BK494.out))⟩; replace BK504 : Aside0 (w28.heap[gb504]? = some (.cells #[.int .i64 t499, .int .i64 t500, .slice Ao27 t501.length co27] 43 (0, 0))) := ⟨(by rw [hw]; exact (by (with_reducible repeat (first | refine blk_drewN ?_ _ | refine blk_drew ?_ | refine blk_alloc ?_ _)); refine blk_put (cs := #[.int .i64 t499, .int .i64 t500, .slice none 0 0]) ?_ 2 _ rfl; (with_reducible repeat (first | refine blk_drewN ?_ _ | refine blk_drew ?_ | refine blk_alloc ?_ _)); refine blk_put (cs := #[.int .i64 t499, .int .i64 0, .slice none 0 0]) ?_ 1 _ rfl; (with_reducible repeat (first | refine blk_drewN ?_ _ | refine blk_drew ?_ | refine blk_alloc ?_ _)); refine blk_put (cs := #[.int .i64 0, .int .i64 0, .slice none 0 0]) ?_ 0 _ rfl; exact bk_ BK504.out))⟩; replace HB : Aside0 (Below w.heap.size w w28) := ⟨(by rw [hw]; exact qz1)⟩; clear hw; obtain ⟨hcz29_0, hcz29_1, hcz29_2, hfz29_0, hfz29_1, hfz29_2⟩ := b6_ BK504.out; have p13 : 0 ≤ (a1 : Int) := dt_; have q13 : (a1 : Int) < ((t501.length : Int) : Int) := dt_; obtain ⟨go13, co13, eo13, gb13, gl13, cl13, HG13⟩ := Kd.R_form HO503.out (by omega); (first | cases eo13 | (injection eo13 with ea_ en_ ec_; (first | subst ea_ | (injection ea_ with ea_; subst ea_)); subst ec_; clear en_)); have GB13 := aM gb13; have GG13 := aM HG13; clear gb13 gl13 HG13; obtain ⟨hx13_0, hf13_0⟩ := Kd.R_celln 0 HO503.out (a1 : Int) p13 q13; replace p13 := eq_true p13; replace q13 := eq_true q13; obtain ⟨hy30_, hz30_⟩ := Kd.R_celln 0 HO503.out (a1 : Int) (dt_) (dt_); have HP30 := Kd.R_putg HO503.out (a1 : Int) 0) | ((with_reducible refine gate_store (t := 3) (p := 23) rfl ?_); refine store_event (t := 3) (p := 23) (v := ?vo_w31) (w1 := (w28.setCell ⟨go13, (a1 : Int).toNat, none⟩ (.int .i64 0))) ?hg ?ho ?hn ?hr ?_; (case ho => rfl); (case hg => rfl); (case hn => rfl); (case hr => exact qz7); intro w31 hw; have hg : w28.grownBy w31 (some go13) := (by rw [hw]; exact HP30.2); have hp_ : Kd.R (Kd.int .i64) 3 w31 w.heap.size (fun k_ => some k_ ≠ (.slice Ao19 t495.length co19 : Value).ownBlock) (.slice (some ⟨go13, 0, none⟩) t501.length co27) y505 := (by rw [hw, Ny505.out]; exact HP30.1); clear HP30; replace BK494 := aM (blk_grown (bk_ BK494.out) hg (Kd.R_ne HO503.out BK494.out (by decide))); replace HO497 := aM (Kd.R_after (v := (.slice (some ⟨go13, 0, none⟩) t501.length co27)) (v1 := (.slice (some ⟨go13, 0, none⟩) t501.length co27)) (ok := (fun _ => True)) (by (with_reducible repeat (first | apply Kd.R_alloc | apply Kd.R_drewN | apply Kd.R_drew)); exact Kd.R_mono HO497.out (fun _ hk => ⟨trivial, hk⟩)) hg (.inl rfl)); replace BK504 := aM (blk_grown (bk_ BK504.out) hg (Kd.R_ne HO503.out BK504.out (by decide))); replace HO503 := aM (hp_); replace HB := aM ((by rw [hw]; exact below_set (HB.out) GB13.out : Below w.heap.size w w31)); clear hg hw hp_))
 replace HO497 := aM (Kd.R_drew HO497.out)
 replace HO503 := aM (Kd.R_drew HO503.out)
 replace BK494 := aM (blk_drew BK494.out)
 replace BK504 := aM (blk_drew BK504.out)
 replace HB := aM (below_drew1 HB.out)
 have p506 : 0 ≤ (0 : Int) := (by omega)
 have q506 : 0 < (t495.length : Int) := dt_
 obtain ⟨ad506, e506, hx506_0⟩ := Kd.at_int (Kd.R_reads' HO497.out).2.2 0 p506 q506
 cases e506
 have qi506 : (0 < t495.length) = True := eq_true (by omega)
 (try rw [show ((0 : Int)).toNat = 0 from rfl] at hx506_0)
 (try rw [Addr.add_zero'] at hx506_0)
 replace p506 := eq_true p506
 replace q506 := eq_true q506
 refine start_ (n := 8) (S := fun w' => w'.cell? ⟨gb504, 0, none⟩ = some (.int .i64 t499) ∧ w'.cell? ⟨gb504, 1, none⟩ = some (.int .i64 t500) ∧ w'.cell? ⟨gb504, 2, none⟩ = some (.slice (some ⟨go13, 0, none⟩) t501.length co27) ∧ w'.cell? ad506 = some (.int .i64 (rd t495 0))) (ds := []) #[false, false, false, false, false, false, false, false] (by kernel_rfl) rfl rfl ⟨(blk_cell BK504.out 0).trans rfl, (blk_cell BK504.out 1).trans rfl, (blk_cell BK504.out 2).trans rfl, hx506_0⟩ (fun hHeld => ?_); refine with_tabW impl_parts.tab7 impl_parts.bits7 (fun HT_ HW_ => ?_)
 generalize w31.drew = w32 at HO497 HO503 BK494 BK504 HB hx506_0 hHeld ⊢
 refine pI_ 1 25 (bqz 8 2) ?_
 refine jI_ 2 26 ?_
 refine jI_ 5 29 ?_
 refine sI4_ 0 24 ?_
 refine sI4_ 3 27 ?_
 refine oI_ 4 28 (bqz 8 63) (fun K hK => ?_)
 refine goes_ Try.func110 (by kernel_rfl) rfl #[.agg #[.int .i64 t499, .int .i64 t500, .slice (some ⟨go13, 0, none⟩) y505.length co27], .int .i64 (rd t495 0)] (by rfl) rfl rfl (by (try simp only [List.map_toArray, List.map_cons, List.map_nil]); first | done | (rw [show y505.length = t501.length from (Kd.R_reads' HO503.out).1.symm] <;> rfl) | rfl | (simp only [List.length_drop, List.length_take]; rfl)) ?_
 with_reducible refine (impl_reach.calls k t499 t500 _ _ y505 (rd t495 0) t507 _ ?side1 ?side2 A15.out).mono ?_
 (case side1 => repeat (first | exact (Kd.R_reads' HO503.out).2.2 | (with_reducible refine Kd.C_alloc ?_ _) | (with_reducible refine Kd.C_drewN ?_ _) | (with_reducible refine Kd.C_drew ?_)))
 (case side2 => rw [show y505.length = t501.length from (Kd.R_reads' HO503.out).1.symm]; exact (Kd.R_reads' HO503.out).2.1)
 rintro e w33 ⟨rfl, hb⟩
 have HS3_ := (hb.cell (World.block_lt_of_cell? _ _ (hHeld.2.2.2))).trans (hHeld.2.2.2)
 refine ⟨_, rfl, ?_⟩
 replace HO497 := aM (Kd.R_below (rr_ HO497.out) hb)
 replace HO503 := aM (Kd.R_below (rr_ HO503.out) hb)
 replace BK494 := bB_ BK494 hb
 replace BK504 := bB_ BK504 hb
 replace HB := bS_ hb
 (try clear hb)
 (try clear hb2)
 (try clear hk)
 (try clear hi)
 refine hK.out _ _ (b3A_ BK504 HS3_) (fun hHeld => ?_)
 clear hK K
 refine nm_ 28 ?_
 refine pI_ 6 30 (bqz 8 127) ?_
 refine jI_ 7 4 ?_
 refine done_ (done_of HT_.out (by kernel_rfl)) ?_
 try go_wp2
 go_ret
 exact ⟨qzw, qz1⟩
 }
/-! ### impl_Cuts: function 92 -/
def impl_Cuts.l0 : Nat → List Int → List Int → Int → Int → Int → Int → List Int → Option (List Int)
 | 0, _, _, _, _, _, _, _ => none
 | k + 1, x3, x11, x12, x13, x509000, x509001, x509002 => if x13 < x12 then (if 0 ≤ x13 then (if x13 < (x11.length : Int) then (if (rd x11 x13) = 0 then (impl_Cuts.l0 k x3 x11 x12 (wrap64 (x13 + 1)) x509000 x509001 x509002) else ((impl_parts.f k x509000 x509001 x509002 x13).bind fun t511 => (if t511 = true then (if x3.length < 17592186044416 then (impl_Cuts.l0 k (x3 ++ [x13]) x11 x12 (wrap64 (x13 + 1)) x509000 x509001 x509002) else (none)) else (impl_Cuts.l0 k x3 x11 x12 (wrap64 (x13 + 1)) x509000 x509001 x509002)))) else (none)) else (none)) else (some x3)
def impl_Cuts.f (k : Nat) (a0_0 : Int) (a0_1 : Int) (l0_2 : List Int) : Option (List Int) := (impl_FloorOk.f k a0_0 a0_1 l0_2).bind fun t509 => (if t509 = true then (impl_Cuts.l0 k ([] : List Int) l0_2 (l0_2.length : Int) 0 a0_0 a0_1 l0_2) else (some ([] : List Int)))
theorem impl_Cuts.mono_l : ∀ k, (∀ y0 y1 y2 y3 y4 y5 y6, LeO (impl_Cuts.l0 k y0 y1 y2 y3 y4 y5 y6) (impl_Cuts.l0 (k + 1) y0 y1 y2 y3 y4 y5 y6))
 | 0 => fun _ _ _ _ _ _ _ r h => by simp [impl_Cuts.l0] at h
 | k + 1 => by
  have ih0 := impl_Cuts.mono_l k
  {
  intro y0 y1 y2 y3 y4 y5 y6
  unfold impl_Cuts.l0
  have j0 := @impl_FloorOk.mono
  have j1 := @impl_parts.mono
  exact qL
  }
theorem impl_Cuts.mono : ∀ a0 a1 a2 k, LeO (impl_Cuts.f k a0 a1 a2) (impl_Cuts.f (k + 1) a0 a1 a2) := by
 intro a0 a1 a2 k
 have ih0 := impl_Cuts.mono_l k
 unfold impl_Cuts.f
 have j0 := @impl_FloorOk.mono
 have j1 := @impl_parts.mono
 exact qL
set_option maxHeartbeats 8000000 in
set_option maxRecDepth 100000 in
theorem impl_Cuts.calls (k : Nat) (a0_0 : Int) (a0_1 : Int) (A0_2 : Option Addr) (c0_2 : Nat) (l0_2 : List Int) (r : List Int) (w : World) (hr0_2 : Kd.C (Kd.int .i64) w A0_2 l0_2.length l0_2) (hc0_2 : l0_2.length ≤ c0_2) (h : impl_Cuts.f k a0_0 a0_1 l0_2 = some r) :
  Calls Try.prog 92 #[.agg #[.int .i64 a0_0, .int .i64 a0_1, .slice A0_2 l0_2.length c0_2]] w fun e w' => ∃ v0_ : Value, e = .returned (v0_) ∧ Kd.R (Kd.int .i64) 3 w' w.heap.size (fun _ => True) v0_ r ∧ Below w.heap.size w w' := by
 have hu43 := Try.underlying43
 have HR0_2 := aM hr0_2
 have HC0_2 := aM hc0_2
 clear hr0_2 hc0_2
 have HB := aM (Below.refl w.heap.size w)
 unfold impl_Cuts.f at h
 have H := h
 clear h
 replace H := Option.bind_eq_some_iff.mp H
 obtain ⟨t509, A20, H⟩ := H
 have A2 := aM A20
 clear A20
 replace H := iB_ H
 rcases H with ⟨rfl, H⟩ | ⟨rfl, H⟩
 {
 have H' := aM H
 clear H
 go_enter Try.func92, Try.ntmps92
 go_wp2_with (first | ((with_reducible refine gate_dst (N := 1) rfl ?_); refine bx_ 1 #[.int .i64 a0_0, .int .i64 a0_1, .slice A0_2 l0_2.length c0_2] 43 ?_; intro gb508 hg w4 hbox hb; have BK508 := aM (hbox); have GW508 := aM (bz_ w hg qz1); have GE508 := GW508; replace HB := bS_ hb; clear hb hbox hg; obtain ⟨hcz5_0, hcz5_1, hcz5_2, hfz5_0, hfz5_1, hfz5_2⟩ := b6_ BK508.out) | ((with_reducible refine gate_callee (f := 64) rfl ?_); refine goesL_ (some 7) rfl rfl Try.func64 (by kernel_rfl) rfl #[.agg #[.int .i64 a0_0, .int .i64 a0_1, .slice A0_2 l0_2.length c0_2]] rfl qz2 ?_; (with_reducible refine (impl_FloorOk.calls k a0_0 a0_1 _ _ l0_2 true _ ?_ ?_ A2.out).mono ?_); exact qz5; exact qz14; rintro e w6 ⟨rfl, hb⟩; refine ⟨_, rfl, ?_⟩; replace BK508 := bB_ BK508 hb; replace HB := bS_ hb; (try clear hb); obtain ⟨hcz7_0, hcz7_1, hcz7_2, hfz7_0, hfz7_1, hfz7_2⟩ := b6_ BK508.out))
 go_loopg [3, 13] k (fun kq v3 v13 w' => ∃ (x3_1 : List Int) (x13_1 : Int), v13 = .int .i64 x13_1 ∧ Aside0 (impl_Cuts.l0 kq x3_1 l0_2 (l0_2.length : Int) x13_1 a0_0 a0_1 l0_2 = some r) ∧ Aside0 (kq ≤ k) ∧ Aside0 (Kd.R (Kd.int .i64) 3 w' w.heap.size (fun _ => True) v3 x3_1) ∧ Aside0 (w'.heap[gb508]? = some (.cells #[.int .i64 a0_0, .int .i64 a0_1, (.slice A0_2 l0_2.length c0_2)] 43 (0, 0))) ∧ Aside0 (Below w.heap.size w w'))
 case atStart => exact ⟨(([] : List Int)), (0), qz6, H', ⟨Nat.le_refl _⟩, ⟨by first | exact Kd.R_nil _ _ _ _ _ | exact Kd.N_nil _ _ _ _ _ | exact Kd.V_nil _ _ _ _ _ | exact Kd.Q_nil _ _ _ _ _ | exact Kd.S_nil _ _ _ _ _⟩, ⟨bk_ BK508.out⟩, ⟨qz1⟩⟩
 case round =>
 clear H'
 try clear c3
 try clear hcz5_0 hcz5_1 hcz5_2 hfz5_0 hfz5_1 hfz5_2
 try clear hcz7_0 hcz7_1 hcz7_2 hfz7_0 hfz7_1 hfz7_2
 obtain ⟨x3_1, x13_1, rfl, HA, HK1, HO_3, BK508, HB⟩ := hrel
 cases gk with
 | zero => exact absurd HA.out (by simp [impl_Cuts.l0])
 | succ k1 =>
 have H := HA.out
 clear HA
 simp only [impl_Cuts.l0] at H
 replace H := iE_ H
 rcases H with ⟨c8b0, H⟩ | ⟨c8b0, H⟩
 {
 replace H := iD_ H
 obtain ⟨c9b0, H⟩ := H
 replace H := iD_ H
 obtain ⟨c10b0, H⟩ := H
 replace H := iQ_ H
 rcases H with ⟨c11b0, c11b1, H⟩ | ⟨c11, c11b0, c11b1, H⟩
 {
 have H' := aM H
 clear H
 have p510 : (0 ≤ (x13_1 : Int)) = True := et_
 have q510 : (x13_1 < (l0_2.length : Int)) = True := et_
 obtain ⟨ad510, e510, hx510_0⟩ := Kd.at_int HR0_2.out x13_1 dt_ dt_
 cases e510
 replace hx510_0 := cB_ hx510_0
 go_wp2
 go_roundg k1
 case measure => have := HK1.out; omega
 case rel => exact ⟨(x3_1), (wrap64 (x13_1 + 1)), qz6, H', ⟨by have := HK1.out; omega⟩, ⟨rm_ HO_3.out⟩, ⟨bk_ BK508.out⟩, ⟨qz1⟩⟩
 }
 {
 replace H := Option.bind_eq_some_iff.mp H
 obtain ⟨t511, A120, H⟩ := H
 have A12 := aM A120
 clear A120
 replace H := iB_ H
 rcases H with ⟨rfl, H⟩ | ⟨rfl, H⟩
 {
 replace H := iN_ H
 obtain ⟨c14, H⟩ := H
 have LMc14 := aM c14
 clear c14
 obtain ⟨y512, hy512⟩ : ∃ y_ : List Int, y_ = (x3_1 ++ [x13_1]) := ⟨_, rfl⟩
 replace H : (impl_Cuts.l0 k1 y512 l0_2 (l0_2.length : Int) (wrap64 (x13_1 + 1)) a0_0 a0_1 l0_2) = some r := by first | (rw [hy512]; exact H) | exact H
 have Ny512 := aM hy512
 clear hy512
 have H' := aM H
 clear H
 have p510 : (0 ≤ (x13_1 : Int)) = True := et_
 have q510 : (x13_1 < (l0_2.length : Int)) = True := et_
 obtain ⟨ad510, e510, hx510_0⟩ := Kd.at_int HR0_2.out x13_1 dt_ dt_
 cases e510
 replace hx510_0 := cB_ hx510_0
 obtain ⟨hcz15_0, hcz15_1, hcz15_2, hfz15_0, hfz15_1, hfz15_2⟩ := b6_ BK508.out
 go_wp2_with (first | (go_at_call 111; (with_reducible refine (impl_parts.calls k1 a0_0 a0_1 _ _ l0_2 x13_1 true _ ?_ ?_ A12.out).mono ?_); exact qz5; exact qz14; rintro e w16 ⟨rfl, hb⟩; replace HO_3 := aM (Kd.R_below (rr_ HO_3.out) hb); replace BK508 := bB_ BK508 hb; replace HB := bS_ hb; (try clear hb)) | ((with_reducible refine gate_builtin (b := .append) (xs := #[.tmp 25, .tmp 27]) rfl ?_); at_builtin; refine Kd.R_append (Kd.int .i64) (w0 := w) w.heap.size rfl (.tmp 25) (.tmp 27) 24 3 (.int .i64 0) 8 rfl Try.underlying24 info3 rfl (by decide) (by omega) u3 x3_1 x13_1 [.int .i64 x13_1] (fun _ => True) (fun _ => False) rfl rfl ?aP (fun _ hk => hk.elim) ?aF ?aO ?aB ?aS ?aL ?_; (case aP => exact rfl); (case aB => exact qz1); (case aF => exact qz12); (case aO => exact (rr_ HO_3.out)); (case aS => exact qz19); (case aL => have := LMc14.out; omega); intro v513 w17 ho hb hg hat; rw [← Ny512.out] at ho; replace BK508 := aM (blk_grown (bk_ BK508.out) hg (Kd.R_ne HO_3.out BK508.out (by decide))); replace HB := aM (hb); have HO514 := aM (ho); clear HO_3; clear ho hb hg hat))
 go_roundg k1
 case measure => have := HK1.out; omega
 case rel => exact ⟨(y512), (wrap64 (x13_1 + 1)), qz6, H', ⟨by have := HK1.out; omega⟩, ⟨rm_ HO514.out⟩, ⟨bk_ BK508.out⟩, ⟨qz1⟩⟩
 }
 {
 have H' := aM H
 clear H
 have p510 : (0 ≤ (x13_1 : Int)) = True := et_
 have q510 : (x13_1 < (l0_2.length : Int)) = True := et_
 obtain ⟨ad510, e510, hx510_0⟩ := Kd.at_int HR0_2.out x13_1 dt_ dt_
 cases e510
 replace hx510_0 := cB_ hx510_0
 obtain ⟨hcz18_0, hcz18_1, hcz18_2, hfz18_0, hfz18_1, hfz18_2⟩ := b6_ BK508.out
 go_wp2_with (first | (go_at_call 111; (with_reducible refine (impl_parts.calls k1 a0_0 a0_1 _ _ l0_2 x13_1 false _ ?_ ?_ A12.out).mono ?_); exact qz5; exact qz14; rintro e w19 ⟨rfl, hb⟩; replace HO_3 := aM (Kd.R_below (rr_ HO_3.out) hb); replace BK508 := bB_ BK508 hb; replace HB := bS_ hb; (try clear hb)))
 go_roundg k1
 case measure => have := HK1.out; omega
 case rel => exact ⟨(x3_1), (wrap64 (x13_1 + 1)), qz6, H', ⟨by have := HK1.out; omega⟩, ⟨rm_ HO_3.out⟩, ⟨bk_ BK508.out⟩, ⟨qz1⟩⟩
 }
 }
 }
 {
 obtain rfl := Option.some.inj H
 go_wp2
 go_ret
 exact ⟨_, qzw, by (with_reducible repeat (first | apply Kd.R_alloc | apply Kd.R_drewN | apply Kd.R_drew)); exact HO_3.out, qz1⟩
 }
 }
 {
 obtain rfl := Option.some.inj H
 go_enter Try.func92, Try.ntmps92
 go_wp2_with (first | ((with_reducible refine gate_dst (N := 1) rfl ?_); refine bx_ 1 #[.int .i64 a0_0, .int .i64 a0_1, .slice A0_2 l0_2.length c0_2] 43 ?_; intro gb508 hg w20 hbox hb; have BK508 := aM (hbox); have GW508 := aM (bz_ w hg qz1); have GE508 := GW508; replace HB := bS_ hb; clear hb hbox hg; obtain ⟨hcz21_0, hcz21_1, hcz21_2, hfz21_0, hfz21_1, hfz21_2⟩ := b6_ BK508.out) | ((with_reducible refine gate_callee (f := 64) rfl ?_); refine goesL_ (some 7) rfl rfl Try.func64 (by kernel_rfl) rfl #[.agg #[.int .i64 a0_0, .int .i64 a0_1, .slice A0_2 l0_2.length c0_2]] rfl qz2 ?_; (with_reducible refine (impl_FloorOk.calls k a0_0 a0_1 _ _ l0_2 false _ ?_ ?_ A2.out).mono ?_); exact qz5; exact qz14; rintro e w22 ⟨rfl, hb⟩; refine ⟨_, rfl, ?_⟩; replace BK508 := bB_ BK508 hb; replace HB := bS_ hb; (try clear hb)))
 go_ret
 exact ⟨_, qzw, by first | exact Kd.R_nil _ _ _ _ _ | exact Kd.N_nil _ _ _ _ _ | exact Kd.V_nil _ _ _ _ _ | exact Kd.Q_nil _ _ _ _ _ | exact Kd.S_nil _ _ _ _ _, qz1⟩
 }
/-! ### impl_Sound: function 51 -/
def impl_Sound.f (k : Nat) (a0_0 : Int) (a0_1 : Int) (l0_2 : List Int) : Option (Bool) := (impl_Together.f k a0_0 a0_1 l0_2).bind fun t516 => (if t516 = true then ((impl_open.f k a0_0 a0_1 l0_2).bind fun bt517 => (if bt517.1 ≥ 4 then ((impl_Cuts.f k a0_0 a0_1 l0_2).bind fun t519 => (some ((t519.length : Int) == 0))) else (some false))) else (some false))
theorem impl_Sound.mono : ∀ a0 a1 a2 k, LeO (impl_Sound.f k a0 a1 a2) (impl_Sound.f (k + 1) a0 a1 a2) := by
 intro a0 a1 a2 k
 unfold impl_Sound.f
 have j0 := @impl_Cuts.mono
 have j1 := @impl_Together.mono
 have j2 := @impl_open.mono
 exact qL
set_option maxHeartbeats 8000000 in
set_option maxRecDepth 100000 in
theorem impl_Sound.calls (k : Nat) (a0_0 : Int) (a0_1 : Int) (A0_2 : Option Addr) (c0_2 : Nat) (l0_2 : List Int) (r : Bool) (w : World) (hr0_2 : Kd.C (Kd.int .i64) w A0_2 l0_2.length l0_2) (hc0_2 : l0_2.length ≤ c0_2) (h : impl_Sound.f k a0_0 a0_1 l0_2 = some r) :
  Calls Try.prog 51 #[.agg #[.int .i64 a0_0, .int .i64 a0_1, .slice A0_2 l0_2.length c0_2]] w fun e w' => e = .returned (.bool r) ∧ Below w.heap.size w w' := by
 have hu43 := Try.underlying43
 have HR0_2 := aM hr0_2
 have HC0_2 := aM hc0_2
 clear hr0_2 hc0_2
 have HB := aM (Below.refl w.heap.size w)
 unfold impl_Sound.f at h
 have H := h
 clear h
 replace H := Option.bind_eq_some_iff.mp H
 obtain ⟨t516, A20, H⟩ := H
 have A2 := aM A20
 clear A20
 replace H := iB_ H
 rcases H with ⟨rfl, H⟩ | ⟨rfl, H⟩
 {
 replace H := Option.bind_eq_some_iff.mp H
 obtain ⟨⟨t517, t518⟩, A40, H⟩ := H
 try dsimp only at H
 have A4 := aM A40
 clear A40
 replace H := iE_ H
 rcases H with ⟨c5b0, H⟩ | ⟨c5b0, H⟩
 {
 replace H := Option.bind_eq_some_iff.mp H
 obtain ⟨t519, A60, H⟩ := H
 have A6 := aM A60
 clear A60
 obtain rfl := Option.some.inj H
 go_enter Try.func51, Try.ntmps51
 go_wp2_with (first | ((with_reducible refine gate_dst (N := 1) rfl ?_); (try (refine gate_guard (by rfl) ?_; dsimp only)); refine bx_ 1 #[.int .i64 a0_0, .int .i64 a0_1, .slice A0_2 l0_2.length c0_2] 43 ?_; intro gb515 hg w7 hbox hb; have BK515 := aM (hbox); have GW515 := aM (bz_ w hg qz1); have GE515 := GW515; replace HB := bS_ hb; clear hb hbox hg; obtain ⟨hcz8_0, hcz8_1, hcz8_2, hfz8_0, hfz8_1, hfz8_2⟩ := b6_ BK515.out) | ((with_reducible refine gate_callee (f := 90) rfl ?_); refine goesL_ (some 6) rfl rfl Try.func90 (by kernel_rfl) rfl #[.agg #[.int .i64 a0_0, .int .i64 a0_1, .slice A0_2 l0_2.length c0_2]] rfl qz2 ?_; (with_reducible refine (impl_Together.calls k a0_0 a0_1 _ _ l0_2 true _ ?_ ?_ A2.out).mono ?_); exact qz5; exact qz14; rintro e w9 ⟨rfl, hb⟩; refine ⟨_, rfl, ?_⟩; replace BK515 := bB_ BK515 hb; replace HB := bS_ hb; (try clear hb); obtain ⟨hcz10_0, hcz10_1, hcz10_2, hfz10_0, hfz10_1, hfz10_2⟩ := b6_ BK515.out) | ((with_reducible refine gate_callee (f := 91) rfl ?_); refine goesL_ (some 10) rfl rfl Try.func91 (by kernel_rfl) rfl #[.agg #[.int .i64 a0_0, .int .i64 a0_1, .slice A0_2 l0_2.length c0_2]] rfl qz2 ?_; (with_reducible refine (impl_open.calls k a0_0 a0_1 _ _ l0_2 t517 t518 _ ?_ ?_ A4.out).mono ?_); exact qz5; exact qz14; rintro e w11 ⟨rfl, hb⟩; refine ⟨_, rfl, ?_⟩; replace BK515 := bB_ BK515 hb; replace HB := bS_ hb; (try clear hb); obtain ⟨hcz12_0, hcz12_1, hcz12_2, hfz12_0, hfz12_1, hfz12_2⟩ := b6_ BK515.out) | (go_at_call 92; (with_reducible refine (impl_Cuts.calls k a0_0 a0_1 _ _ l0_2 t519 _ ?_ ?_ A6.out).mono ?_); exact qz5; exact qz14; rintro e w13 ⟨v520, rfl, ho0, hb⟩; have HO521 := aM (Kd.R_lower ho0 (below_size qz1)); replace BK515 := bB_ BK515 hb; replace HB := bS_ hb; (try clear hb ho0); obtain ⟨Ao14, co14, eo14⟩ := Kd.R_slice HO521.out; subst eo14))
 go_ret
 exact ⟨qzw, qz1⟩
 }
 {
 obtain rfl := Option.some.inj H
 go_enter Try.func51, Try.ntmps51
 go_wp2_with (first | ((with_reducible refine gate_dst (N := 1) rfl ?_); (try (refine gate_guard (by rfl) ?_; dsimp only)); refine bx_ 1 #[.int .i64 a0_0, .int .i64 a0_1, .slice A0_2 l0_2.length c0_2] 43 ?_; intro gb515 hg w15 hbox hb; have BK515 := aM (hbox); have GW515 := aM (bz_ w hg qz1); have GE515 := GW515; replace HB := bS_ hb; clear hb hbox hg; obtain ⟨hcz16_0, hcz16_1, hcz16_2, hfz16_0, hfz16_1, hfz16_2⟩ := b6_ BK515.out) | ((with_reducible refine gate_callee (f := 90) rfl ?_); refine goesL_ (some 6) rfl rfl Try.func90 (by kernel_rfl) rfl #[.agg #[.int .i64 a0_0, .int .i64 a0_1, .slice A0_2 l0_2.length c0_2]] rfl qz2 ?_; (with_reducible refine (impl_Together.calls k a0_0 a0_1 _ _ l0_2 true _ ?_ ?_ A2.out).mono ?_); exact qz5; exact qz14; rintro e w17 ⟨rfl, hb⟩; refine ⟨_, rfl, ?_⟩; replace BK515 := bB_ BK515 hb; replace HB := bS_ hb; (try clear hb); obtain ⟨hcz18_0, hcz18_1, hcz18_2, hfz18_0, hfz18_1, hfz18_2⟩ := b6_ BK515.out) | ((with_reducible refine gate_callee (f := 91) rfl ?_); refine goesL_ (some 10) rfl rfl Try.func91 (by kernel_rfl) rfl #[.agg #[.int .i64 a0_0, .int .i64 a0_1, .slice A0_2 l0_2.length c0_2]] rfl qz2 ?_; (with_reducible refine (impl_open.calls k a0_0 a0_1 _ _ l0_2 t517 t518 _ ?_ ?_ A4.out).mono ?_); exact qz5; exact qz14; rintro e w19 ⟨rfl, hb⟩; refine ⟨_, rfl, ?_⟩; replace BK515 := bB_ BK515 hb; replace HB := bS_ hb; (try clear hb)))
 go_ret
 exact ⟨qzw, qz1⟩
 }
 }
 {
 obtain rfl := Option.some.inj H
 go_enter Try.func51, Try.ntmps51
 go_wp2_with (first | ((with_reducible refine gate_dst (N := 1) rfl ?_); (try (refine gate_guard (by rfl) ?_; dsimp only)); refine bx_ 1 #[.int .i64 a0_0, .int .i64 a0_1, .slice A0_2 l0_2.length c0_2] 43 ?_; intro gb515 hg w20 hbox hb; have BK515 := aM (hbox); have GW515 := aM (bz_ w hg qz1); have GE515 := GW515; replace HB := bS_ hb; clear hb hbox hg; obtain ⟨hcz21_0, hcz21_1, hcz21_2, hfz21_0, hfz21_1, hfz21_2⟩ := b6_ BK515.out) | ((with_reducible refine gate_callee (f := 90) rfl ?_); refine goesL_ (some 6) rfl rfl Try.func90 (by kernel_rfl) rfl #[.agg #[.int .i64 a0_0, .int .i64 a0_1, .slice A0_2 l0_2.length c0_2]] rfl qz2 ?_; (with_reducible refine (impl_Together.calls k a0_0 a0_1 _ _ l0_2 false _ ?_ ?_ A2.out).mono ?_); exact qz5; exact qz14; rintro e w22 ⟨rfl, hb⟩; refine ⟨_, rfl, ?_⟩; replace BK515 := bB_ BK515 hb; replace HB := bS_ hb; (try clear hb)))
 go_ret
 exact ⟨qzw, qz1⟩
 }
end Go.Proofs.Ytankmdbbgepmbaa.PFnLively
