-- Made by a program of this session out of the translation. Lean checks it.
import Derived.Test.YtankmdbbgepmbaaPFnFirstx7
import Derived.Test.YtankmdbbgepmbaaPFnFirstx8
import Derived.Test.YtankmdbbgepmbaaPFnFirstx20
namespace Go.Proofs.Ytankmdbbgepmbaa.PFnFirst
open Go.RowKit Go.Proofs.YtankmdbbgepmbaaW.PrintWords Go.Proofs.YtankmdbbgepmbaaW.PrintLast Go.Proofs.YtankmdbbgepmbaaW.PrintMore
attribute [local go_sem] max2_int min2_int max_two min_two max_three min_three max_four min_four   -- for this text's walks alone
set_option linter.unusedVariables false
set_option linter.unusedSimpArgs false

/-! ### laws_FnFirst: function 12 -/
mutual
def laws_FnFirst.j0 : Nat → List (S37) → List Int → List Int → Bool → Int → Int → List Int → Option (Bool)
 | 0, _, _, _, _, _, _, _ => none
 | k + 1, x4, x5, x6, x31, x540000, x540001, x540002 => if x31 = true then (some false) else (if (x6.length : Int) = 0 then ((impl_Sound.f k x540000 x540001 x540002).bind fun t546 => (some t546)) else (if 0 < (x6.length : Int) then (if 0 ≤ (rd x6 0) then (if (rd x6 0) < (x4.length : Int) then (if ((rd_T37 x4 (rd x6 0)).f2) = (-1) then (laws_FnFirst.j1 k x4 x5 x6 true x540000 x540001 x540002 ((rd_T37 x4 (rd x6 0)).f0) ((rd_T37 x4 (rd x6 0)).f1) ((rd_T37 x4 (rd x6 0)).f2) ((rd_T37 x4 (rd x6 0)).f3) ((rd_T37 x4 (rd x6 0)).f4)) else (laws_FnFirst.j1 k x4 x5 x6 (((rd_T37 x4 (rd x6 0)).f1) == ((rd_T37 x4 (rd x6 0)).f2)) x540000 x540001 x540002 ((rd_T37 x4 (rd x6 0)).f0) ((rd_T37 x4 (rd x6 0)).f1) ((rd_T37 x4 (rd x6 0)).f2) ((rd_T37 x4 (rd x6 0)).f3) ((rd_T37 x4 (rd x6 0)).f4))) else (none)) else (none)) else (none)))
def laws_FnFirst.j1 : Nat → List (S37) → List Int → List Int → Bool → Int → Int → List Int → Int → Int → Int → Bool → Int → Option (Bool)
 | 0, _, _, _, _, _, _, _, _, _, _, _, _ => none
 | k + 1, x4, x5, x6, x52, x540000, x540001, x540002, x550000, x550001, x550002, x550003, x550004 => if x52 = true then ((impl_Clash.f k x540000 x540001 x540002 x4 x5).bind fun t550 => (if t550 = 0 then ((impl_Sound.f k x540000 x540001 x540002).bind fun t551 => (some t551)) else (some false))) else (if 0 < (x6.length : Int) then (if 0 ≤ (rd x6 0) then (if (rd x6 0) < (x5.length : Int) then ((impl_Steps.f k x540000 x540001 x540002 (rd x5 (rd x6 0)) x550002).bind fun t554 => ((impl_Steps.f k x540000 x540001 x540002 x550001 x550002).bind fun t555 => (some (t554 == (wrap64 (t555 - 1)))))) else (none)) else (none)) else (none))
end
def laws_FnFirst.f (k : Nat) (l0 : List Int) : Option (Bool) := (laws_big.f l0).bind fun t530 => (if t530 = true then (some true) else ((spec_DrawLively.f k l0).bind fun bt531 => ((impl_Step.f k bt531.1 bt531.2.1 bt531.2.2.1 bt531.2.2.2).bind fun t540 => ((impl_Turns.f bt531.2.2.2).bind fun t543 => (if (t540.length : Int) = (bt531.2.2.2.length : Int) then (laws_FnFirst.j0 k bt531.2.2.2 t540 t543 ((t543.length : Int) != (bt531.2.2.2.length : Int)) bt531.1 bt531.2.1 bt531.2.2.1) else (laws_FnFirst.j0 k bt531.2.2.2 t540 t543 true bt531.1 bt531.2.1 bt531.2.2.1))))))
theorem laws_FnFirst.mono_l : ∀ k, (∀ y0 y1 y2 y3 y4 y5 y6, LeO (laws_FnFirst.j0 k y0 y1 y2 y3 y4 y5 y6) (laws_FnFirst.j0 (k + 1) y0 y1 y2 y3 y4 y5 y6)) ∧ (∀ y0 y1 y2 y3 y4 y5 y6 y7 y8 y9 y10 y11, LeO (laws_FnFirst.j1 k y0 y1 y2 y3 y4 y5 y6 y7 y8 y9 y10 y11) (laws_FnFirst.j1 (k + 1) y0 y1 y2 y3 y4 y5 y6 y7 y8 y9 y10 y11))
 | 0 => ⟨fun _ _ _ _ _ _ _ r h => by simp [laws_FnFirst.j0] at h, fun _ _ _ _ _ _ _ _ _ _ _ _ r h => by simp [laws_FnFirst.j1] at h⟩
 | k + 1 => by
  obtain ⟨ih0, ih1⟩ := laws_FnFirst.mono_l k
  refine ⟨?_, ?_⟩
  {
  intro y0 y1 y2 y3 y4 y5 y6
  unfold laws_FnFirst.j0
  have j0 := @impl_Clash.mono
  have j1 := @impl_Sound.mono
  have j2 := @impl_Step.mono
  have j3 := @impl_Steps.mono
  have j4 := @spec_DrawLively.mono
  exact qL
  }
  {
  intro y0 y1 y2 y3 y4 y5 y6 y7 y8 y9 y10 y11
  unfold laws_FnFirst.j1
  have j0 := @impl_Clash.mono
  have j1 := @impl_Sound.mono
  have j2 := @impl_Step.mono
  have j3 := @impl_Steps.mono
  have j4 := @spec_DrawLively.mono
  exact qL
  }
theorem laws_FnFirst.mono : ∀ a0 k, LeO (laws_FnFirst.f k a0) (laws_FnFirst.f (k + 1) a0) := by
 intro a0 k
 obtain ⟨ih0, ih1⟩ := laws_FnFirst.mono_l k
 unfold laws_FnFirst.f
 have j0 := @impl_Clash.mono
 have j1 := @impl_Sound.mono
 have j2 := @impl_Step.mono
 have j3 := @impl_Steps.mono
 have j4 := @spec_DrawLively.mono
 exact qL
def laws_FnFirst.T13 : Bool × List (List Nat × List Nat) := (true, [([], []), ([], []), ([], []), ([2], [2]), ([3], [3]), ([1, 4], [1, 4]), ([5], [5]), ([], []), ([7], [7]), ([0, 6, 8], [0, 6, 8]), ([], []), ([], []), ([11], [11]), ([], []), ([13], [13]), ([10, 12, 14, 9], [10, 12, 14]), ([15], [15]), ([9, 16], [9, 16]), ([17, 15, 0, 1, 2, 3, 4, 5, 6, 7, 8, 9, 10, 11, 12, 13, 14, 15, 16, 17], [17])])
def laws_FnFirst.B13 : List Nat := [0, 0, 0, 4, 12, 30, 62, 0, 128, 511, 0, 0, 2048, 0, 8192, 32767, 65535, 131071, 262143]
theorem laws_FnFirst.tab13 : rtab .any (opsOf Try.f12 13) = laws_FnFirst.T13 := by kernel_rfl
theorem laws_FnFirst.bits13 : waitsOk laws_FnFirst.T13.2 laws_FnFirst.B13 = true := by kernel_rfl
set_option maxHeartbeats 8000000 in
set_option maxRecDepth 100000 in
theorem laws_FnFirst.calls (k : Nat) (A0 : Option Addr) (c0 : Nat) (l0 : List Int) (r : Bool) (w : World) (hr0 : Kd.C (Kd.int .u8) w A0 l0.length l0) (hc0 : l0.length ≤ c0) (hT : r = true) (h : laws_FnFirst.f k l0 = some r) :
  Calls Try.prog 12 #[.slice A0 l0.length c0] w fun e w' => e = .returned (.bool r) ∧ Below w.heap.size w w' := by
 have HTR_ := aM hT
 clear hT
 have hu43 := Try.underlying43
 have hu37 := Try.underlying37
 have HR0 := aM hr0
 have HC0 := aM hc0
 clear hr0 hc0
 have HB := aM (Below.refl w.heap.size w)
 unfold laws_FnFirst.f at h
 have H := h
 clear h
 replace H := Option.bind_eq_some_iff.mp H
 obtain ⟨t530, A20, H⟩ := H
 have A2 := aM A20
 clear A20
 replace H := iB_ H
 rcases H with ⟨rfl, H⟩ | ⟨rfl, H⟩
 {
 obtain rfl := Option.some.inj H
 go_enter Try.func12, Try.ntmps12
 go_wp2_with (first | ((with_reducible refine gate_callee (f := 23) rfl ?_); refine goesL_ (some 9) rfl rfl Try.func23 (by kernel_rfl) rfl #[.slice A0 l0.length c0] rfl qz2 ?_; (with_reducible refine (laws_big.calls _ _ l0 true _ ?_ ?_ A2.out).mono ?_); exact qz12; exact HC0.out; rintro e w' ⟨rfl, ⟨nd, rfl⟩⟩; refine ⟨_, rfl, ?_⟩))
 go_ret
 exact ⟨qzw, qz1⟩
 }
 {
 replace H := Option.bind_eq_some_iff.mp H
 obtain ⟨⟨t531, t532, t533, t536⟩, A40, H⟩ := H
 try dsimp only at H
 have A4 := aM A40
 clear A40
 replace H := Option.bind_eq_some_iff.mp H
 obtain ⟨t540, A50, H⟩ := H
 have A5 := aM A50
 clear A50
 replace H := Option.bind_eq_some_iff.mp H
 obtain ⟨t543, A60, H⟩ := H
 have A6 := aM A60
 clear A60
 have HC7 := aM H
 clear H
 go_enter Try.func12, Try.ntmps12
 go_upto_region 6 with (first | ((with_reducible refine gate_callee (f := 23) rfl ?_); refine goesL_ (some 9) rfl rfl Try.func23 (by kernel_rfl) rfl #[.slice A0 l0.length c0] rfl qz2 ?_; (with_reducible refine (laws_big.calls _ _ l0 false _ ?_ ?_ A2.out).mono ?_); exact qz12; exact HC0.out; rintro e w' ⟨rfl, ⟨nd, rfl⟩⟩; refine ⟨_, rfl, ?_⟩) | ((with_reducible refine gate_callee (f := 50) rfl ?_); refine goesL_ (some 12) rfl rfl Try.func50 (by kernel_rfl) rfl #[.slice A0 l0.length c0] rfl qz2 ?_; (with_reducible refine (spec_DrawLively.calls k _ _ l0 t531 t532 t533 t536 _ ?_ ?_ A4.out).mono ?_); exact qz12; exact HC0.out; rintro e w8 ⟨v534, v537, rfl, ho0, ho1, hb⟩; refine ⟨_, rfl, ?_⟩; have HO535 := aM (Kd.R_lower ho0 (below_size qz1)); have HO538 := aM (Kd.R_lower ho1 (below_size qz1)); replace HB := bS_ hb; (try clear hb ho0 ho1)) | ((with_reducible refine gate_dst (N := 3) rfl ?_); (try (refine gate_guard (by rfl) ?_; dsimp only)); refine bx_ 3 #[.int .i64 0, .int .i64 0, .slice none 0 0] 43 ?_; intro gb539 hg w9 hbox hb; replace HO535 := aM (Kd.R_below (rr_ HO535.out) hb); replace HO538 := aM (Kd.R_below (rr_ HO538.out) hb); have BK539 := aM (hbox); have GW539 := aM (bz_ w hg qz1); have GE539 := GW539; replace HB := bS_ hb; clear hb hbox hg; obtain ⟨hcz10_0, hcz10_1, hcz10_2, hfz10_0, hfz10_1, hfz10_2⟩ := b6_ BK539.out; obtain ⟨Ao11, co11, eo11⟩ := Kd.R_slice HO535.out; subst eo11; obtain ⟨Ao12, co12, eo12⟩ := Kd.R_slice HO538.out; subst eo12) | ((with_reducible refine gate_callee (f := 42) rfl ?_); refine goesL_ (some 17) rfl rfl Try.func42 (by kernel_rfl) rfl #[.agg #[.int .i64 t531, .int .i64 t532, .slice Ao11 t533.length co11], .slice Ao12 t536.length co12] rfl qz2 ?_; (with_reducible refine (impl_Step.calls k t531 t532 _ _ t533 _ _ t536 t540 _ ?side1 ?side2 ?side3 ?side4 A5.out).mono ?_); (case side1 => refine (Kd.R_reads' (e := 3) (base := w.heap.size) (ok := fun k_ => True) (n := t533.length) (c := co11) ?_).2.2; exact (by (with_reducible repeat (first | apply Kd.R_alloc | apply Kd.R_drewN | apply Kd.R_drew)); exact (Kd.R_mono (Kd.R_far (p := ⟨gb539, 2, none⟩) (Kd.R_far (p := ⟨gb539, 1, none⟩) (Kd.R_far (p := ⟨gb539, 0, none⟩) (Kd.R_types HO535.out BK539.out (by decide)) (fun _ hk => hk.2) (.int .i64 t531)) (fun _ hk => hk.2) (.int .i64 t532)) (fun _ hk => hk.2) (.slice Ao11 t533.length co11)) (fun _ h_ => h_.1)))); (case side2 => exact (Kd.R_reads' HO535.out).2.1); (case side3 => refine (Kd.R_reads' (e := 37) (base := w.heap.size) (ok := fun k_ => True) (n := t536.length) (c := co12) ?_).2.2; exact (by (with_reducible repeat (first | apply Kd.R_alloc | apply Kd.R_drewN | apply Kd.R_drew)); exact (Kd.R_mono (Kd.R_far (p := ⟨gb539, 2, none⟩) (Kd.R_far (p := ⟨gb539, 1, none⟩) (Kd.R_far (p := ⟨gb539, 0, none⟩) (Kd.R_types HO538.out BK539.out (by decide)) (fun _ hk => hk.2) (.int .i64 t531)) (fun _ hk => hk.2) (.int .i64 t532)) (fun _ hk => hk.2) (.slice Ao11 t533.length co11)) (fun _ h_ => h_.1)))); (case side4 => exact (Kd.R_reads' HO538.out).2.1); rintro e w13 ⟨v541, rfl, ho0, hb⟩; refine ⟨_, rfl, ?_⟩; replace HO538 := aM (Kd.R_below (by (with_reducible repeat (first | apply Kd.R_alloc | apply Kd.R_drewN | apply Kd.R_drew)); exact (Kd.R_mono (Kd.R_far (p := ⟨gb539, 2, none⟩) (Kd.R_far (p := ⟨gb539, 1, none⟩) (Kd.R_far (p := ⟨gb539, 0, none⟩) (Kd.R_types HO538.out BK539.out (by decide)) (fun _ hk => hk.2) (.int .i64 t531)) (fun _ hk => hk.2) (.int .i64 t532)) (fun _ hk => hk.2) (.slice Ao11 t533.length co11)) (fun _ h_ => h_.1))) hb); have HO542 := aM (Kd.R_lower (Kd.R_new' ho0 (Kd.R_lt (by (with_reducible repeat (first | apply Kd.R_alloc | apply Kd.R_drewN | apply Kd.R_drew)); exact (Kd.R_mono (Kd.R_far (p := ⟨gb539, 2, none⟩) (Kd.R_far (p := ⟨gb539, 1, none⟩) (Kd.R_far (p := ⟨gb539, 0, none⟩) (Kd.R_types HO535.out BK539.out (by decide)) (fun _ hk => hk.2) (.int .i64 t531)) (fun _ hk => hk.2) (.int .i64 t532)) (fun _ hk => hk.2) (.slice Ao11 t533.length co11)) (fun _ h_ => h_.1))))) (below_size qz1)); replace HO535 := aM (Kd.R_elder' (by (with_reducible repeat (first | apply Kd.R_alloc | apply Kd.R_drewN | apply Kd.R_drew)); exact (Kd.R_mono (Kd.R_far (p := ⟨gb539, 2, none⟩) (Kd.R_far (p := ⟨gb539, 1, none⟩) (Kd.R_far (p := ⟨gb539, 0, none⟩) (Kd.R_types HO535.out BK539.out (by decide)) (fun _ hk => hk.2) (.int .i64 t531)) (fun _ hk => hk.2) (.int .i64 t532)) (fun _ hk => hk.2) (.slice Ao11 t533.length co11)) (fun _ h_ => h_.1))) (Kd.R_base ho0) hb); replace BK539 := aM (blk_below (g := gb539) (o := .cells #[.int .i64 t531, .int .i64 t532, .slice Ao11 t533.length co11] 43 (0, 0)) (by (with_reducible repeat (first | refine blk_drewN ?_ _ | refine blk_drew ?_ | refine blk_alloc ?_ _)); refine blk_put (cs := #[.int .i64 t531, .int .i64 t532, .slice none 0 0]) ?_ 2 _ rfl; (with_reducible repeat (first | refine blk_drewN ?_ _ | refine blk_drew ?_ | refine blk_alloc ?_ _)); refine blk_put (cs := #[.int .i64 t531, .int .i64 0, .slice none 0 0]) ?_ 1 _ rfl; (with_reducible repeat (first | refine blk_drewN ?_ _ | refine blk_drew ?_ | refine blk_alloc ?_ _)); refine blk_put (cs := #[.int .i64 0, .int .i64 0, .slice none 0 0]) ?_ 0 _ rfl; exact bk_ BK539.out) hb); replace HB := bS_ hb; (try clear hb ho0)) | ((with_reducible refine gate_callee (f := 17) rfl ?_); refine goesL_ (some 19) rfl rfl Try.func17 (by kernel_rfl) rfl #[.slice Ao12 t536.length co12] rfl qz2 ?_; (with_reducible refine (impl_Turns.calls _ _ t536 t543 _ ?side1 ?side2 A6.out).mono ?_); (case side1 => repeat (first | exact (Kd.R_reads' HO538.out).2.2 | (with_reducible refine Kd.C_alloc ?_ _) | (with_reducible refine Kd.C_drewN ?_ _) | (with_reducible refine Kd.C_drew ?_))); (case side2 => exact (Kd.R_reads' HO538.out).2.1); rintro e w14 ⟨v544, rfl, ho0, hb⟩; refine ⟨_, rfl, ?_⟩; replace HO538 := aM (Kd.R_below (rr_ HO538.out) hb); have HO545 := aM (Kd.R_lower (Kd.R_new' (Kd.R_new' ho0 (Kd.R_lt (rr_ HO535.out))) (Kd.R_lt (rr_ HO542.out))) (below_size qz1)); replace HO535 := aM (Kd.R_elder' (rr_ HO535.out) (Kd.R_base ho0) hb); replace HO542 := aM (Kd.R_elder' (rr_ HO542.out) (Kd.R_base ho0) hb); replace BK539 := bB_ BK539 hb; replace HB := bS_ hb; (try clear hb ho0)))
 (try simp only [Act.put, List.setIfInBounds_toArray, List.set_cons_zero, List.set_cons_succ])
 go_cut [31] (fun v31 wc => ∃ (kq : Nat) (x31_6 : Bool), v31 = .bool x31_6 ∧ Aside0 (laws_FnFirst.j0 kq t536 t540 t543 x31_6 t531 t532 t533 = some r) ∧ Aside0 (kq ≤ k) ∧ Aside0 (Kd.R k37 37 wc w.heap.size (fun _ => True) (.slice Ao12 t536.length co12) t536) ∧ Aside0 (Kd.R (Kd.int .i64) 3 wc w.heap.size (fun k_ => some k_ ≠ (v544 : Value).ownBlock ∧ some k_ ≠ ((.slice Ao11 t533.length co11) : Value).ownBlock) v541 t540) ∧ Aside0 (Kd.R (Kd.int .i64) 3 wc w.heap.size (fun k_ => some k_ ≠ (v541 : Value).ownBlock ∧ some k_ ≠ ((.slice Ao11 t533.length co11) : Value).ownBlock) v544 t543) ∧ Aside0 (Kd.R (Kd.int .i64) 3 wc w.heap.size (fun k_ => some k_ ≠ (v541 : Value).ownBlock ∧ some k_ ≠ (v544 : Value).ownBlock) (.slice Ao11 t533.length co11) t533) ∧ Aside0 (wc.heap[gb539]? = some (.cells #[.int .i64 t531, .int .i64 t532, (.slice Ao11 t533.length co11)] 43 (0, 0))) ∧ Aside0 (Below w.heap.size w wc))
 case first =>
  have H := HC7.out
  clear HC7
  replace H := iS_ H
  rcases H with ⟨c15, H⟩ | ⟨c15, H⟩
  {
  have c15b0 := beq_iff_eq.mpr c15
  have c15b1 := bne_eq_false_iff_eq.mpr c15
  have c15b2 : (t540.length == t536.length) = true := by first | simpa using c15 | (simp at c15 ⊢; omega)
  clear c15
  (first | rw [c15b0] | (simp only [i64_w, i32_w]; rw [c15b0]) | rw [@decide_eq_true _ _ (of_decide_eq_true c15b0)] | rw [@decide_eq_true _ _ (of_decide_eq_true c15b1)] | skip)
  have H' := aM H
  clear H
  obtain ⟨Ao16, co16, eo16⟩ := Kd.R_slice HO542.out
  subst eo16
  obtain ⟨Ao17, co17, eo17⟩ := Kd.R_slice HO545.out
  subst eo17
  go_wp2
  go_meet
  case rel => exact ⟨_, (((t543.length : Int) != (t536.length : Int))), qz6, H', ⟨by first | omega | exact Nat.le_refl _⟩, ⟨rm_ HO538.out⟩, ⟨by (with_reducible repeat (first | apply Kd.R_alloc | apply Kd.R_drewN | apply Kd.R_drew)); exact Kd.R_mono HO542.out (fun _ hk => ⟨hk.2, hk.1.2⟩)⟩, ⟨by (with_reducible repeat (first | apply Kd.R_alloc | apply Kd.R_drewN | apply Kd.R_drew)); exact Kd.R_mono HO545.out (fun _ hk => ⟨hk.2, hk.1.2⟩)⟩, ⟨by (with_reducible repeat (first | apply Kd.R_alloc | apply Kd.R_drewN | apply Kd.R_drew)); exact Kd.R_mono HO535.out (fun _ hk => ⟨hk.1.2, hk.2⟩)⟩, ⟨bk_ BK539.out⟩, ⟨qz1⟩⟩
  }
  {
  have c15b0 := beq_eq_false_iff_ne.mpr c15
  have c15b1 := bne_iff_ne.mpr c15
  have c15b2 : (t540.length == t536.length) = false := by first | simpa using c15 | (simp at c15 ⊢; omega)
  (first | rw [c15b0] | (simp only [i64_w, i32_w]; rw [c15b0]) | rw [@decide_eq_false _ _ (of_decide_eq_false c15b0)] | rw [@decide_eq_false _ _ (of_decide_eq_false c15b1)] | skip)
  have H' := aM H
  clear H
  obtain ⟨Ao18, co18, eo18⟩ := Kd.R_slice HO542.out
  subst eo18
  go_wp2
  go_meet
  case rel => exact ⟨_, (true), qz6, H', ⟨by first | omega | exact Nat.le_refl _⟩, ⟨rm_ HO538.out⟩, ⟨by (with_reducible repeat (first | apply Kd.R_alloc | apply Kd.R_drewN | apply Kd.R_drew)); exact Kd.R_mono HO542.out (fun _ hk => ⟨hk.2, hk.1.2⟩)⟩, ⟨by (with_reducible repeat (first | apply Kd.R_alloc | apply Kd.R_drewN | apply Kd.R_drew)); exact Kd.R_mono HO545.out (fun _ hk => ⟨hk.2, hk.1.2⟩)⟩, ⟨by (with_reducible repeat (first | apply Kd.R_alloc | apply Kd.R_drewN | apply Kd.R_drew)); exact Kd.R_mono HO535.out (fun _ hk => ⟨hk.1.2, hk.2⟩)⟩, ⟨bk_ BK539.out⟩, ⟨qz1⟩⟩
  }
 case rest =>
 clear HC7
 try clear c3
 try clear hcz10_0 hcz10_1 hcz10_2 hfz10_0 hfz10_1 hfz10_2
 obtain ⟨kq, x31_6, rfl, HA, HJ6, HO_4, HO_5, HO_6, HO_540002, BK539, HB⟩ := hcut
 cases kq with
 | zero => exact absurd HA.out (by simp [laws_FnFirst.j0])
 | succ kj6 =>
 have H := HA.out
 clear HA
 simp only [laws_FnFirst.j0] at H
 replace H := iB_ H
 rcases H with ⟨rfl, H⟩ | ⟨rfl, H⟩
 {
 obtain rfl := Option.some.inj H
 exact absurd HTR_.out (by decide)
 }
 {
 replace H := iQ_ H
 rcases H with ⟨c20b0, c20b1, H⟩ | ⟨c20, c20b0, c20b1, H⟩
 {
 replace H := Option.bind_eq_some_iff.mp H
 obtain ⟨t546, A210, H⟩ := H
 have A21 := aM A210
 clear A210
 obtain rfl := Option.some.inj H
 obtain ⟨Ao22, co22, eo22⟩ := Kd.R_slice HO_6.out
 subst eo22
 obtain ⟨hcz23_0, hcz23_1, hcz23_2, hfz23_0, hfz23_1, hfz23_2⟩ := b6_ BK539.out
 go_wp2_with (first | ((with_reducible refine gate_callee (f := 51) rfl ?_); refine goesL_ (some 36) rfl rfl Try.func51 (by kernel_rfl) rfl #[.agg #[.int .i64 t531, .int .i64 t532, .slice Ao11 t533.length co11]] rfl qz2 ?_; (with_reducible refine (impl_Sound.calls kj6 t531 t532 _ _ t533 t546 _ ?_ ?_ A21.out).mono ?_); exact qz11; exact (Kd.R_reads' HO_540002.out).2.1; rintro e w24 ⟨rfl, hb⟩; refine ⟨_, rfl, ?_⟩; replace HO_4 := aM (Kd.R_below (rr_ HO_4.out) hb); replace HO_5 := aM (Kd.R_below (rr_ HO_5.out) hb); replace HO_6 := aM (Kd.R_below (rr_ HO_6.out) hb); replace HO_540002 := aM (Kd.R_below (rr_ HO_540002.out) hb); replace BK539 := bB_ BK539 hb; replace HB := bS_ hb; (try clear hb)))
 go_ret
 exact ⟨qzw, qz1⟩
 }
 {
 have c20b2 : ¬ (t543 = []) := fun h_ => c20 (by rw [h_]; rfl)
 replace H := iN_ H
 obtain ⟨c25, H⟩ := H
 have c25b0 := decide_eq_true c25
 have c25b1 : decide (0 < t543.length) = true := decide_eq_true (by omega)
 clear c25
 replace H := iD_ H
 obtain ⟨c26b0, H⟩ := H
 replace H := iD_ H
 obtain ⟨c27b0, H⟩ := H
 have HC28 := aM H
 clear H
 obtain ⟨Ao29, co29, eo29⟩ := Kd.R_slice HO_6.out
 subst eo29
 have p547 : 0 ≤ (0 : Int) := (by omega)
 have q547 : 0 < (t543.length : Int) := dt_
 obtain ⟨ad547, e547, hx547_0⟩ := Kd.at_int (Kd.R_reads' HO_6.out).2.2 0 p547 q547
 cases e547
 have qi547 : (0 < t543.length) = True := eq_true (by omega)
 (try rw [show ((0 : Int)).toNat = 0 from rfl] at hx547_0)
 (try rw [Addr.add_zero'] at hx547_0)
 replace p547 := eq_true p547
 replace q547 := eq_true q547
 have p548 : (0 ≤ ((rd t543 0) : Int)) = True := et_
 have q548 : ((rd t543 0) < (t536.length : Int)) = True := et_
 obtain ⟨ad548, e548, hx548_0, hx548_1, hx548_2, hx548_3, hx548_4⟩ := at_T37 (Kd.R_reads' HO_4.out).2.2 (rd t543 0) dt_ dt_
 cases e548
 go_upto_region 11 with (first | ((with_reducible refine gate_dst (N := 7) rfl ?_); (try (refine gate_guard (by rfl) ?_; dsimp only)); refine bx_ 7 #[.int .i64 0, .int .i64 0, .int .i64 0, .bool false, .int .i64 0] 37 ?_; intro gb549 hg w30 hbox hb; replace HO_4 := aM (Kd.R_below (Kd.R_elderB (rr_ HO_4.out) gb549 (Nat.le_of_eq hg.symm)) hb); replace HO_5 := aM (Kd.R_below (rr_ HO_5.out) hb); replace HO_6 := aM (Kd.R_below (rr_ HO_6.out) hb); replace HO_540002 := aM (Kd.R_below (rr_ HO_540002.out) hb); have BK549 := aM (hbox); have GW549 := aM (bz_ w hg qz1); have GE549 := GW549; replace HB := bS_ hb; obtain ⟨NB539_549, NB549_539⟩ := nb_ hg (bk_ BK539.out); replace BK539 := bB_ BK539 hb; clear hb hbox hg; have hnb31 := NB549_539.out; have hnc31 := NB539_549.out; obtain ⟨hcz32_0, hcz32_1, hcz32_2, hcz32_3, hcz32_4, hfz32_0, hfz32_1, hfz32_2, hfz32_3, hfz32_4⟩ := b10_ BK549.out))
 (try simp only [Act.put, List.setIfInBounds_toArray, List.set_cons_zero, List.set_cons_succ])
 go_cut [52] (fun v52 wc => ∃ (kq : Nat) (x52_27 : Bool), v52 = .bool x52_27 ∧ Aside0 (laws_FnFirst.j1 kq t536 t540 t543 x52_27 t531 t532 t533 ((rd_T37 t536 (rd t543 0)).f0) ((rd_T37 t536 (rd t543 0)).f1) ((rd_T37 t536 (rd t543 0)).f2) ((rd_T37 t536 (rd t543 0)).f3) ((rd_T37 t536 (rd t543 0)).f4) = some r) ∧ Aside0 (kq ≤ kj6) ∧ Aside0 (Kd.R k37 37 wc w.heap.size (fun k_ => k_ ≠ gb549) (.slice (some ad548) t536.length co12) t536) ∧ Aside0 (Kd.R (Kd.int .i64) 3 wc w.heap.size (fun k_ => some k_ ≠ ((.slice (some ad547) t543.length co29) : Value).ownBlock ∧ some k_ ≠ ((.slice Ao11 t533.length co11) : Value).ownBlock) v541 t540) ∧ Aside0 (Kd.R (Kd.int .i64) 3 wc w.heap.size (fun k_ => some k_ ≠ (v541 : Value).ownBlock ∧ some k_ ≠ ((.slice Ao11 t533.length co11) : Value).ownBlock) (.slice (some ad547) t543.length co29) t543) ∧ Aside0 (Kd.R (Kd.int .i64) 3 wc w.heap.size (fun k_ => some k_ ≠ (v541 : Value).ownBlock ∧ some k_ ≠ ((.slice (some ad547) t543.length co29) : Value).ownBlock) (.slice Ao11 t533.length co11) t533) ∧ Aside0 (wc.heap[gb539]? = some (.cells #[.int .i64 t531, .int .i64 t532, (.slice Ao11 t533.length co11)] 43 (0, 0))) ∧ Aside0 (wc.heap[gb549]? = some (.cells #[.int .i64 ((rd_T37 t536 (rd t543 0)).f0), .int .i64 ((rd_T37 t536 (rd t543 0)).f1), .int .i64 ((rd_T37 t536 (rd t543 0)).f2), .bool ((rd_T37 t536 (rd t543 0)).f3), .int .i64 ((rd_T37 t536 (rd t543 0)).f4)] 37 (0, 0))) ∧ Aside0 (Below w.heap.size w wc))
 case first =>
  have H := HC28.out
  clear HC28
  replace H := iQ_ H
  rcases H with ⟨c33b0, c33b1, H⟩ | ⟨c33, c33b0, c33b1, H⟩
  {
  (first | rw [c33b0] | (simp only [i64_w, i32_w]; rw [c33b0]) | rw [@decide_eq_true _ _ (of_decide_eq_true c33b0)] | rw [@decide_eq_true _ _ (of_decide_eq_true c33b1)] | skip)
  have H' := aM H
  clear H
  have hnb34 := NB549_539.out
  have hnc34 := NB539_549.out
  have hcz35_0 := bc0_ BK549.out
  have hcz35_1 := bc1_ BK549.out
  have hcz35_2 := bc2_ BK549.out
  have hcz35_3 := bc3_ BK549.out
  have hcz35_4 := bc4_ BK549.out
  have hfz35_0 := blk_frozen BK549.out 0
  have hfz35_1 := blk_frozen BK549.out 1
  have hfz35_2 := blk_frozen BK549.out 2
  have hfz35_3 := blk_frozen BK549.out 3
  have hfz35_4 := blk_frozen BK549.out 4
  go_wp2
  go_meet
  case rel => exact ⟨_, (true), qz6, H', ⟨by have := HJ6.out; first | omega | exact Nat.le_refl _⟩, ⟨by (with_reducible repeat (first | apply Kd.R_alloc | apply Kd.R_drewN | apply Kd.R_drew)); exact Kd.R_mono (Kd.R_far (p := ⟨gb549, 4, none⟩) (Kd.R_far (p := ⟨gb549, 3, none⟩) (Kd.R_far (p := ⟨gb549, 2, none⟩) (Kd.R_far (p := ⟨gb549, 1, none⟩) (Kd.R_far (p := ⟨gb549, 0, none⟩) (Kd.R_mono HO_4.out (fun k_ hk => (⟨hk, hk.2⟩ : _ ∧ k_ ≠ gb549))) (fun _ hk => hk.2) (.int .i64 ((rd_T37 t536 (rd t543 0)).f0))) (fun _ hk => hk.2) (.int .i64 ((rd_T37 t536 (rd t543 0)).f1))) (fun _ hk => hk.2) (.int .i64 ((rd_T37 t536 (rd t543 0)).f2))) (fun _ hk => hk.2) (.bool ((rd_T37 t536 (rd t543 0)).f3))) (fun _ hk => hk.2) (.int .i64 ((rd_T37 t536 (rd t543 0)).f4))) (fun _ hk => hk.1.2)⟩, ⟨by (with_reducible repeat (first | apply Kd.R_alloc | apply Kd.R_drewN | apply Kd.R_drew)); exact Kd.R_mono (Kd.R_far (p := ⟨gb549, 4, none⟩) (Kd.R_far (p := ⟨gb549, 3, none⟩) (Kd.R_far (p := ⟨gb549, 2, none⟩) (Kd.R_far (p := ⟨gb549, 1, none⟩) (Kd.R_far (p := ⟨gb549, 0, none⟩) (Kd.R_types HO_5.out BK549.out (by decide)) (fun _ hk => hk.2) (.int .i64 ((rd_T37 t536 (rd t543 0)).f0))) (fun _ hk => hk.2) (.int .i64 ((rd_T37 t536 (rd t543 0)).f1))) (fun _ hk => hk.2) (.int .i64 ((rd_T37 t536 (rd t543 0)).f2))) (fun _ hk => hk.2) (.bool ((rd_T37 t536 (rd t543 0)).f3))) (fun _ hk => hk.2) (.int .i64 ((rd_T37 t536 (rd t543 0)).f4))) (fun _ hk => ⟨hk.1.1, hk.1.2⟩)⟩, ⟨by (with_reducible repeat (first | apply Kd.R_alloc | apply Kd.R_drewN | apply Kd.R_drew)); exact Kd.R_mono (Kd.R_far (p := ⟨gb549, 4, none⟩) (Kd.R_far (p := ⟨gb549, 3, none⟩) (Kd.R_far (p := ⟨gb549, 2, none⟩) (Kd.R_far (p := ⟨gb549, 1, none⟩) (Kd.R_far (p := ⟨gb549, 0, none⟩) (Kd.R_types HO_6.out BK549.out (by decide)) (fun _ hk => hk.2) (.int .i64 ((rd_T37 t536 (rd t543 0)).f0))) (fun _ hk => hk.2) (.int .i64 ((rd_T37 t536 (rd t543 0)).f1))) (fun _ hk => hk.2) (.int .i64 ((rd_T37 t536 (rd t543 0)).f2))) (fun _ hk => hk.2) (.bool ((rd_T37 t536 (rd t543 0)).f3))) (fun _ hk => hk.2) (.int .i64 ((rd_T37 t536 (rd t543 0)).f4))) (fun _ hk => ⟨hk.1.1, hk.1.2⟩)⟩, ⟨by (with_reducible repeat (first | apply Kd.R_alloc | apply Kd.R_drewN | apply Kd.R_drew)); exact Kd.R_mono (Kd.R_far (p := ⟨gb549, 4, none⟩) (Kd.R_far (p := ⟨gb549, 3, none⟩) (Kd.R_far (p := ⟨gb549, 2, none⟩) (Kd.R_far (p := ⟨gb549, 1, none⟩) (Kd.R_far (p := ⟨gb549, 0, none⟩) (Kd.R_types HO_540002.out BK549.out (by decide)) (fun _ hk => hk.2) (.int .i64 ((rd_T37 t536 (rd t543 0)).f0))) (fun _ hk => hk.2) (.int .i64 ((rd_T37 t536 (rd t543 0)).f1))) (fun _ hk => hk.2) (.int .i64 ((rd_T37 t536 (rd t543 0)).f2))) (fun _ hk => hk.2) (.bool ((rd_T37 t536 (rd t543 0)).f3))) (fun _ hk => hk.2) (.int .i64 ((rd_T37 t536 (rd t543 0)).f4))) (fun _ hk => ⟨hk.1.1, hk.1.2⟩)⟩, ⟨by (with_reducible repeat (first | refine blk_drewN ?_ _ | refine blk_drew ?_ | refine blk_alloc ?_ _)); refine blk_far ?_ NB539_549.out _; (with_reducible repeat (first | refine blk_drewN ?_ _ | refine blk_drew ?_ | refine blk_alloc ?_ _)); refine blk_far ?_ NB539_549.out _; (with_reducible repeat (first | refine blk_drewN ?_ _ | refine blk_drew ?_ | refine blk_alloc ?_ _)); refine blk_far ?_ NB539_549.out _; (with_reducible repeat (first | refine blk_drewN ?_ _ | refine blk_drew ?_ | refine blk_alloc ?_ _)); refine blk_far ?_ NB539_549.out _; (with_reducible repeat (first | refine blk_drewN ?_ _ | refine blk_drew ?_ | refine blk_alloc ?_ _)); refine blk_far ?_ NB539_549.out _; exact bk_ BK539.out⟩, ⟨by (with_reducible repeat (first | refine blk_drewN ?_ _ | refine blk_drew ?_ | refine blk_alloc ?_ _)); refine blk_put (cs := #[.int .i64 ((rd_T37 t536 (rd t543 0)).f0), .int .i64 ((rd_T37 t536 (rd t543 0)).f1), .int .i64 ((rd_T37 t536 (rd t543 0)).f2), .bool ((rd_T37 t536 (rd t543 0)).f3), .int .i64 0]) ?_ 4 _ rfl; (with_reducible repeat (first | refine blk_drewN ?_ _ | refine blk_drew ?_ | refine blk_alloc ?_ _)); refine blk_put (cs := #[.int .i64 ((rd_T37 t536 (rd t543 0)).f0), .int .i64 ((rd_T37 t536 (rd t543 0)).f1), .int .i64 ((rd_T37 t536 (rd t543 0)).f2), .bool false, .int .i64 0]) ?_ 3 _ rfl; (with_reducible repeat (first | refine blk_drewN ?_ _ | refine blk_drew ?_ | refine blk_alloc ?_ _)); refine blk_put (cs := #[.int .i64 ((rd_T37 t536 (rd t543 0)).f0), .int .i64 ((rd_T37 t536 (rd t543 0)).f1), .int .i64 0, .bool false, .int .i64 0]) ?_ 2 _ rfl; (with_reducible repeat (first | refine blk_drewN ?_ _ | refine blk_drew ?_ | refine blk_alloc ?_ _)); refine blk_put (cs := #[.int .i64 ((rd_T37 t536 (rd t543 0)).f0), .int .i64 0, .int .i64 0, .bool false, .int .i64 0]) ?_ 1 _ rfl; (with_reducible repeat (first | refine blk_drewN ?_ _ | refine blk_drew ?_ | refine blk_alloc ?_ _)); refine blk_put (cs := #[.int .i64 0, .int .i64 0, .int .i64 0, .bool false, .int .i64 0]) ?_ 0 _ rfl; exact bk_ BK549.out⟩, ⟨qz1⟩⟩
  }
  {
  (first | rw [c33b0] | (simp only [i64_w, i32_w]; rw [c33b0]) | rw [@decide_eq_false _ _ (of_decide_eq_false c33b0)] | rw [@decide_eq_false _ _ (of_decide_eq_false c33b1)] | skip)
  have H' := aM H
  clear H
  have hnb36 := NB549_539.out
  have hnc36 := NB539_549.out
  have hcz37_0 := bc0_ BK549.out
  have hcz37_1 := bc1_ BK549.out
  have hcz37_2 := bc2_ BK549.out
  have hcz37_3 := bc3_ BK549.out
  have hcz37_4 := bc4_ BK549.out
  have hfz37_0 := blk_frozen BK549.out 0
  have hfz37_1 := blk_frozen BK549.out 1
  have hfz37_2 := blk_frozen BK549.out 2
  have hfz37_3 := blk_frozen BK549.out 3
  have hfz37_4 := blk_frozen BK549.out 4
  go_wp2
  go_meet
  case rel => exact ⟨_, ((((rd_T37 t536 (rd t543 0)).f1) == ((rd_T37 t536 (rd t543 0)).f2))), qz6, H', ⟨by have := HJ6.out; first | omega | exact Nat.le_refl _⟩, ⟨by (with_reducible repeat (first | apply Kd.R_alloc | apply Kd.R_drewN | apply Kd.R_drew)); exact Kd.R_mono (Kd.R_far (p := ⟨gb549, 4, none⟩) (Kd.R_far (p := ⟨gb549, 3, none⟩) (Kd.R_far (p := ⟨gb549, 2, none⟩) (Kd.R_far (p := ⟨gb549, 1, none⟩) (Kd.R_far (p := ⟨gb549, 0, none⟩) (Kd.R_mono HO_4.out (fun k_ hk => (⟨hk, hk.2⟩ : _ ∧ k_ ≠ gb549))) (fun _ hk => hk.2) (.int .i64 ((rd_T37 t536 (rd t543 0)).f0))) (fun _ hk => hk.2) (.int .i64 ((rd_T37 t536 (rd t543 0)).f1))) (fun _ hk => hk.2) (.int .i64 ((rd_T37 t536 (rd t543 0)).f2))) (fun _ hk => hk.2) (.bool ((rd_T37 t536 (rd t543 0)).f3))) (fun _ hk => hk.2) (.int .i64 ((rd_T37 t536 (rd t543 0)).f4))) (fun _ hk => hk.1.2)⟩, ⟨by (with_reducible repeat (first | apply Kd.R_alloc | apply Kd.R_drewN | apply Kd.R_drew)); exact Kd.R_mono (Kd.R_far (p := ⟨gb549, 4, none⟩) (Kd.R_far (p := ⟨gb549, 3, none⟩) (Kd.R_far (p := ⟨gb549, 2, none⟩) (Kd.R_far (p := ⟨gb549, 1, none⟩) (Kd.R_far (p := ⟨gb549, 0, none⟩) (Kd.R_types HO_5.out BK549.out (by decide)) (fun _ hk => hk.2) (.int .i64 ((rd_T37 t536 (rd t543 0)).f0))) (fun _ hk => hk.2) (.int .i64 ((rd_T37 t536 (rd t543 0)).f1))) (fun _ hk => hk.2) (.int .i64 ((rd_T37 t536 (rd t543 0)).f2))) (fun _ hk => hk.2) (.bool ((rd_T37 t536 (rd t543 0)).f3))) (fun _ hk => hk.2) (.int .i64 ((rd_T37 t536 (rd t543 0)).f4))) (fun _ hk => ⟨hk.1.1, hk.1.2⟩)⟩, ⟨by (with_reducible repeat (first | apply Kd.R_alloc | apply Kd.R_drewN | apply Kd.R_drew)); exact Kd.R_mono (Kd.R_far (p := ⟨gb549, 4, none⟩) (Kd.R_far (p := ⟨gb549, 3, none⟩) (Kd.R_far (p := ⟨gb549, 2, none⟩) (Kd.R_far (p := ⟨gb549, 1, none⟩) (Kd.R_far (p := ⟨gb549, 0, none⟩) (Kd.R_types HO_6.out BK549.out (by decide)) (fun _ hk => hk.2) (.int .i64 ((rd_T37 t536 (rd t543 0)).f0))) (fun _ hk => hk.2) (.int .i64 ((rd_T37 t536 (rd t543 0)).f1))) (fun _ hk => hk.2) (.int .i64 ((rd_T37 t536 (rd t543 0)).f2))) (fun _ hk => hk.2) (.bool ((rd_T37 t536 (rd t543 0)).f3))) (fun _ hk => hk.2) (.int .i64 ((rd_T37 t536 (rd t543 0)).f4))) (fun _ hk => ⟨hk.1.1, hk.1.2⟩)⟩, ⟨by (with_reducible repeat (first | apply Kd.R_alloc | apply Kd.R_drewN | apply Kd.R_drew)); exact Kd.R_mono (Kd.R_far (p := ⟨gb549, 4, none⟩) (Kd.R_far (p := ⟨gb549, 3, none⟩) (Kd.R_far (p := ⟨gb549, 2, none⟩) (Kd.R_far (p := ⟨gb549, 1, none⟩) (Kd.R_far (p := ⟨gb549, 0, none⟩) (Kd.R_types HO_540002.out BK549.out (by decide)) (fun _ hk => hk.2) (.int .i64 ((rd_T37 t536 (rd t543 0)).f0))) (fun _ hk => hk.2) (.int .i64 ((rd_T37 t536 (rd t543 0)).f1))) (fun _ hk => hk.2) (.int .i64 ((rd_T37 t536 (rd t543 0)).f2))) (fun _ hk => hk.2) (.bool ((rd_T37 t536 (rd t543 0)).f3))) (fun _ hk => hk.2) (.int .i64 ((rd_T37 t536 (rd t543 0)).f4))) (fun _ hk => ⟨hk.1.1, hk.1.2⟩)⟩, ⟨by (with_reducible repeat (first | refine blk_drewN ?_ _ | refine blk_drew ?_ | refine blk_alloc ?_ _)); refine blk_far ?_ NB539_549.out _; (with_reducible repeat (first | refine blk_drewN ?_ _ | refine blk_drew ?_ | refine blk_alloc ?_ _)); refine blk_far ?_ NB539_549.out _; (with_reducible repeat (first | refine blk_drewN ?_ _ | refine blk_drew ?_ | refine blk_alloc ?_ _)); refine blk_far ?_ NB539_549.out _; (with_reducible repeat (first | refine blk_drewN ?_ _ | refine blk_drew ?_ | refine blk_alloc ?_ _)); refine blk_far ?_ NB539_549.out _; (with_reducible repeat (first | refine blk_drewN ?_ _ | refine blk_drew ?_ | refine blk_alloc ?_ _)); refine blk_far ?_ NB539_549.out _; exact bk_ BK539.out⟩, ⟨by (with_reducible repeat (first | refine blk_drewN ?_ _ | refine blk_drew ?_ | refine blk_alloc ?_ _)); refine blk_put (cs := #[.int .i64 ((rd_T37 t536 (rd t543 0)).f0), .int .i64 ((rd_T37 t536 (rd t543 0)).f1), .int .i64 ((rd_T37 t536 (rd t543 0)).f2), .bool ((rd_T37 t536 (rd t543 0)).f3), .int .i64 0]) ?_ 4 _ rfl; (with_reducible repeat (first | refine blk_drewN ?_ _ | refine blk_drew ?_ | refine blk_alloc ?_ _)); refine blk_put (cs := #[.int .i64 ((rd_T37 t536 (rd t543 0)).f0), .int .i64 ((rd_T37 t536 (rd t543 0)).f1), .int .i64 ((rd_T37 t536 (rd t543 0)).f2), .bool false, .int .i64 0]) ?_ 3 _ rfl; (with_reducible repeat (first | refine blk_drewN ?_ _ | refine blk_drew ?_ | refine blk_alloc ?_ _)); refine blk_put (cs := #[.int .i64 ((rd_T37 t536 (rd t543 0)).f0), .int .i64 ((rd_T37 t536 (rd t543 0)).f1), .int .i64 0, .bool false, .int .i64 0]) ?_ 2 _ rfl; (with_reducible repeat (first | refine blk_drewN ?_ _ | refine blk_drew ?_ | refine blk_alloc ?_ _)); refine blk_put (cs := #[.int .i64 ((rd_T37 t536 (rd t543 0)).f0), .int .i64 0, .int .i64 0, .bool false, .int .i64 0]) ?_ 1 _ rfl; (with_reducible repeat (first | refine blk_drewN ?_ _ | refine blk_drew ?_ | refine blk_alloc ?_ _)); refine blk_put (cs := #[.int .i64 0, .int .i64 0, .int .i64 0, .bool false, .int .i64 0]) ?_ 0 _ rfl; exact bk_ BK549.out⟩, ⟨qz1⟩⟩
  }
 case rest =>
 clear HC28
 try clear c3
 try clear qi5
 try clear c19
 try clear c20
 try clear c20b0
 try clear c20b1
 try clear c20b2
 try clear c25
 try clear c25b0
 try clear c25b1
 try clear c26
 try clear c26b0
 try clear c27
 try clear c27b0
 try clear hcz10_0 hcz10_1 hcz10_2 hfz10_0 hfz10_1 hfz10_2
 try clear hcz32_0 hcz32_1 hcz32_2 hcz32_3 hcz32_4 hfz32_0 hfz32_1 hfz32_2 hfz32_3 hfz32_4
 try clear hx547_0
 try clear hx548_0
 try clear hx548_1
 try clear hx548_2
 try clear hx548_3
 try clear hx548_4
 try clear p547
 try clear p548
 try clear q547
 try clear q548
 obtain ⟨kq, x52_27, rfl, HA, HJ27, HO_4, HO_5, HO_6, HO_540002, BK539, BK549, HB⟩ := hcut
 cases kq with
 | zero => exact absurd HA.out (by simp [laws_FnFirst.j1])
 | succ kj27 =>
 have H := HA.out
 clear HA
 simp only [laws_FnFirst.j1] at H
 replace H := iB_ H
 rcases H with ⟨rfl, H⟩ | ⟨rfl, H⟩
 {
 replace H := Option.bind_eq_some_iff.mp H
 obtain ⟨t550, A390, H⟩ := H
 have A39 := aM A390
 clear A390
 replace H := iQ_ H
 rcases H with ⟨c40b0, c40b1, H⟩ | ⟨c40, c40b0, c40b1, H⟩
 {
 replace H := Option.bind_eq_some_iff.mp H
 obtain ⟨t551, A410, H⟩ := H
 have A41 := aM A410
 clear A410
 obtain rfl := Option.some.inj H
 have hnb42 := NB539_549.out
 have hnc42 := NB549_539.out
 obtain ⟨hcz43_0, hcz43_1, hcz43_2, hfz43_0, hfz43_1, hfz43_2⟩ := b6_ BK539.out
 obtain ⟨Ao44, co44, eo44⟩ := Kd.R_slice HO_5.out
 subst eo44
 go_wp2_with (first | ((with_reducible refine gate_callee (f := 39) rfl ?_); refine goesL_ (some 56) rfl rfl Try.func39 (by kernel_rfl) rfl #[.agg #[.int .i64 t531, .int .i64 t532, .slice Ao11 t533.length co11], .slice (some ad548) t536.length co12, .slice Ao44 t540.length co44] rfl qz2 ?_; (with_reducible refine (impl_Clash.calls kj27 t531 t532 _ _ t533 _ _ t536 _ _ t540 t550 _ ?side1 ?side2 ?side3 ?side4 ?side5 ?side6 A39.out).mono ?_); (case side1 => exact qz11); (case side2 => exact (Kd.R_reads' HO_540002.out).2.1); (case side3 => repeat (first | exact (Kd.R_reads' HO_4.out).2.2 | (with_reducible refine Kd.C_alloc ?_ _) | (with_reducible refine Kd.C_drewN ?_ _) | (with_reducible refine Kd.C_drew ?_))); (case side4 => exact (Kd.R_reads' HO_4.out).2.1); (case side5 => repeat (first | exact (Kd.R_reads' HO_5.out).2.2 | (with_reducible refine Kd.C_alloc ?_ _) | (with_reducible refine Kd.C_drewN ?_ _) | (with_reducible refine Kd.C_drew ?_))); (case side6 => exact (Kd.R_reads' HO_5.out).2.1); rintro e w45 ⟨rfl, hb⟩; refine ⟨_, rfl, ?_⟩; replace HO_4 := aM (Kd.R_below (rr_ HO_4.out) hb); replace HO_5 := aM (Kd.R_below (rr_ HO_5.out) hb); replace HO_6 := aM (Kd.R_below (rr_ HO_6.out) hb); replace HO_540002 := aM (Kd.R_below (rr_ HO_540002.out) hb); replace BK539 := bB_ BK539 hb; replace BK549 := bB_ BK549 hb; replace HB := bS_ hb; (try clear hb); obtain ⟨hcz46_0, hcz46_1, hcz46_2, hfz46_0, hfz46_1, hfz46_2⟩ := b6_ BK539.out) | (go_at_call 51; (with_reducible refine (impl_Sound.calls kj27 t531 t532 _ _ t533 t551 _ ?_ ?_ A41.out).mono ?_); exact qz11; exact (Kd.R_reads' HO_540002.out).2.1; rintro e w47 ⟨rfl, hb⟩; replace HO_4 := aM (Kd.R_below (rr_ HO_4.out) hb); replace HO_5 := aM (Kd.R_below (rr_ HO_5.out) hb); replace HO_6 := aM (Kd.R_below (rr_ HO_6.out) hb); replace HO_540002 := aM (Kd.R_below (rr_ HO_540002.out) hb); replace BK539 := bB_ BK539 hb; replace BK549 := bB_ BK549 hb; replace HB := bS_ hb; (try clear hb)))
 go_ret
 exact ⟨qzw, qz1⟩
 }
 {
 obtain rfl := Option.some.inj H
 exact absurd HTR_.out (by decide)
 }
 }
 {
 replace H := iN_ H
 obtain ⟨c48, H⟩ := H
 have c48b0 := decide_eq_true c48
 have c48b1 : decide (0 < t543.length) = true := decide_eq_true (by omega)
 clear c48
 replace H := iD_ H
 obtain ⟨c49b0, H⟩ := H
 replace H := iD_ H
 obtain ⟨c50b0, H⟩ := H
 replace H := Option.bind_eq_some_iff.mp H
 obtain ⟨t554, A510, H⟩ := H
 have A51 := aM A510
 clear A510
 replace H := Option.bind_eq_some_iff.mp H
 obtain ⟨t555, A520, H⟩ := H
 have A52 := aM A520
 clear A520
 obtain rfl := Option.some.inj H
 try go_wp2
 replace HO_4 := aM (Kd.R_drew HO_4.out)
 replace HO_5 := aM (Kd.R_drew HO_5.out)
 replace HO_6 := aM (Kd.R_drew HO_6.out)
 replace HO_540002 := aM (Kd.R_drew HO_540002.out)
 replace BK539 := aM (blk_drew BK539.out)
 replace BK549 := aM (blk_drew BK549.out)
 replace HB := aM (below_drew1 HB.out)
 have p552 : 0 ≤ (0 : Int) := (by omega)
 have q552 : 0 < (t543.length : Int) := dt_
 obtain ⟨ad552, e552, hx552_0⟩ := Kd.at_int (Kd.R_reads' HO_6.out).2.2 0 p552 q552
 obtain rfl : ad547 = ad552 := (by injection e552)
 have qi552 : (0 < t543.length) = True := eq_true (by omega)
 (try rw [show ((0 : Int)).toNat = 0 from rfl] at hx552_0)
 (try rw [Addr.add_zero'] at hx552_0)
 replace p552 := eq_true p552
 replace q552 := eq_true q552
 obtain ⟨Ao54, co54, eo54⟩ := Kd.R_slice HO_5.out
 (first | subst eo54 | (injection eo54 with f1_ f2_ f3_; have f4_ := f1_.symm; have f5_ := f3_.symm; clear f1_ f2_ f3_; subst f4_; subst f5_))
 have p553 : (0 ≤ ((rd t543 0) : Int)) = True := et_
 have q553 : ((rd t543 0) < (t540.length : Int)) = True := et_
 obtain ⟨ad553, e553, hx553_0⟩ := Kd.at_int (Kd.R_reads' HO_5.out).2.2 (rd t543 0) dt_ dt_
 cases e553
 refine start_ (n := 19) (S := fun w' => w'.cell? ⟨gb539, 0, none⟩ = some (.int .i64 t531) ∧ w'.cell? ⟨gb539, 1, none⟩ = some (.int .i64 t532) ∧ w'.cell? ⟨gb539, 2, none⟩ = some (.slice Ao11 t533.length co11) ∧ w'.cell? ⟨gb549, 0, none⟩ = some (.int .i64 ((rd_T37 t536 (rd t543 0)).f0)) ∧ w'.cell? ⟨gb549, 1, none⟩ = some (.int .i64 ((rd_T37 t536 (rd t543 0)).f1)) ∧ w'.cell? ⟨gb549, 2, none⟩ = some (.int .i64 ((rd_T37 t536 (rd t543 0)).f2)) ∧ w'.cell? ⟨gb549, 3, none⟩ = some (.bool ((rd_T37 t536 (rd t543 0)).f3)) ∧ w'.cell? ⟨gb549, 4, none⟩ = some (.int .i64 ((rd_T37 t536 (rd t543 0)).f4)) ∧ w'.cell? ad547 = some (.int .i64 (rd t543 0)) ∧ w'.cell? (ad553.add ((rd t543 0)).toNat) = some (.int .i64 (rd t540 (rd t543 0)))) (ds := []) #[false, false, false, false, false, false, false, false, false, false, false, false, false, false, false, false, false, false, false] (by kernel_rfl) rfl rfl ⟨(blk_cell BK539.out 0).trans rfl, (blk_cell BK539.out 1).trans rfl, (blk_cell BK539.out 2).trans rfl, (blk_cell BK549.out 0).trans rfl, (blk_cell BK549.out 1).trans rfl, (blk_cell BK549.out 2).trans rfl, (blk_cell BK549.out 3).trans rfl, (blk_cell BK549.out 4).trans rfl, hx552_0, hx553_0⟩ (fun hHeld => ?_); refine with_tabW laws_FnFirst.tab13 laws_FnFirst.bits13 (fun HT_ HW_ => ?_)
 generalize wc.drew = w53 at HO_4 HO_5 HO_6 HO_540002 BK539 BK549 HB hx552_0 hx553_0 hHeld ⊢
 refine pI_ 1 63 (bqz 19 2) ?_
 refine jI_ 2 64 ?_
 refine jI_ 3 65 ?_
 refine jI_ 7 69 ?_
 refine jI_ 11 73 ?_
 refine jI_ 13 75 ?_
 refine sI10_ 0 62 ?_
 refine sI10_ 4 66 ?_
 refine jI_ 5 67 ?_
 refine sI10_ 6 68 ?_
 refine sI10_ 8 70 ?_
 refine sI10_ 10 72 ?_
 refine sI10_ 12 74 ?_
 refine sI10_ 14 76 ?_
 refine oI_ 9 71 (bqz 19 32767) (fun K hK => ?_)
 refine goes_ Try.func52 (by kernel_rfl) rfl #[.agg #[.int .i64 t531, .int .i64 t532, .slice Ao11 t533.length co11], .int .i64 (rd t540 (rd t543 0)), .int .i64 ((rd_T37 t536 (rd t543 0)).f2)] (by rfl) rfl rfl qz2 ?_
 with_reducible refine (impl_Steps.calls kj27 t531 t532 _ _ t533 (rd t540 (rd t543 0)) ((rd_T37 t536 (rd t543 0)).f2) t554 _ ?side1 ?side2 A51.out).mono ?_
 (case side1 => exact qz11)
 (case side2 => exact (Kd.R_reads' HO_540002.out).2.1)
 rintro e w55 ⟨rfl, hb⟩
 have HS8_ := (hb.cell (World.block_lt_of_cell? _ _ (hHeld.2.2.2.2.2.2.2.2.1))).trans (hHeld.2.2.2.2.2.2.2.2.1)
 have HS9_ := (hb.cell (World.block_lt_of_cell? _ _ (hHeld.2.2.2.2.2.2.2.2.2))).trans (hHeld.2.2.2.2.2.2.2.2.2)
 refine ⟨_, rfl, ?_⟩
 replace HO_4 := aM (Kd.R_below (rr_ HO_4.out) hb)
 replace HO_5 := aM (Kd.R_below (rr_ HO_5.out) hb)
 replace HO_6 := aM (Kd.R_below (rr_ HO_6.out) hb)
 replace HO_540002 := aM (Kd.R_below (rr_ HO_540002.out) hb)
 replace BK539 := bB_ BK539 hb
 replace BK549 := bB_ BK549 hb
 replace HB := bS_ hb
 (try clear hb)
 (try clear hb2)
 (try clear hk)
 (try clear hi)
 refine hK.out _ _ (b3A_ BK539 (b5A_ BK549 ⟨HS8_, HS9_⟩)) (fun hHeld => ?_)
 clear hK K
 refine nm_ 71 ?_
 refine oI_ 15 77 (bqz 19 65535) (fun K hK => ?_)
 refine goes_ Try.func52 (by kernel_rfl) rfl #[.agg #[.int .i64 t531, .int .i64 t532, .slice Ao11 t533.length co11], .int .i64 ((rd_T37 t536 (rd t543 0)).f1), .int .i64 ((rd_T37 t536 (rd t543 0)).f2)] (by rfl) rfl rfl qz2 ?_
 with_reducible refine (impl_Steps.calls kj27 t531 t532 _ _ t533 ((rd_T37 t536 (rd t543 0)).f1) ((rd_T37 t536 (rd t543 0)).f2) t555 _ ?side1 ?side2 A52.out).mono ?_
 (case side1 => exact qz11)
 (case side2 => exact (Kd.R_reads' HO_540002.out).2.1)
 rintro e w56 ⟨rfl, hb⟩
 have HS8_ := (hb.cell (World.block_lt_of_cell? _ _ (hHeld.2.2.2.2.2.2.2.2.1))).trans (hHeld.2.2.2.2.2.2.2.2.1)
 have HS9_ := (hb.cell (World.block_lt_of_cell? _ _ (hHeld.2.2.2.2.2.2.2.2.2))).trans (hHeld.2.2.2.2.2.2.2.2.2)
 refine ⟨_, rfl, ?_⟩
 replace HO_4 := aM (Kd.R_below (rr_ HO_4.out) hb)
 replace HO_5 := aM (Kd.R_below (rr_ HO_5.out) hb)
 replace HO_6 := aM (Kd.R_below (rr_ HO_6.out) hb)
 replace HO_540002 := aM (Kd.R_below (rr_ HO_540002.out) hb)
 replace BK539 := bB_ BK539 hb
 replace BK549 := bB_ BK549 hb
 replace HB := bS_ hb
 (try clear hb)
 (try clear hb2)
 (try clear hk)
 (try clear hi)
 refine hK.out _ _ (b3A_ BK539 (b5A_ BK549 ⟨HS8_, HS9_⟩)) (fun hHeld => ?_)
 clear hK K
 refine nm_ 77 ?_
 refine pI_ 16 78 (bqz 19 131071) ?_
 refine jI_ 17 79 ?_
 refine jI_ 18 2 ?_
 refine done_ (done_of HT_.out (by kernel_rfl)) ?_
 try go_wp2
 go_ret
 exact ⟨qzw, qz1⟩
 }
 }
 }
 }
/-- THE ONE PURE STATEMENT of laws_FnFirst: yours. -/
def laws_FnFirst.Pure : Prop := ∀ (l0 : List Int), l0.length ≤ maxLen → l0.length * 1 ≤ 140737488351232 → (∀ x ∈ l0, (Lit.int .u8 x).wf = true) → ∃ k, laws_FnFirst.f k l0 = some true
theorem laws_FnFirst.walk (P : laws_FnFirst.Pure) (a0 : Option Addr) (len0 cap0 : Nat) (z0 : List Int) (w : World) (w0 : (a0 = none ∧ len0 = 0 ∧ cap0 = 0 ∧ z0 = []) ∨ ∃ x, a0 = some x ∧ len0 ≤ cap0 ∧ cap0 ≤ maxLen ∧ z0.length = cap0 ∧ (∀ i, i < z0.length → w.cell? (x.add i) = some (.int .u8 (z0.getD i 0))) ∧ ∀ n ∈ z0, (Lit.int .u8 n).wf = true) (y0 : len0 * 1 ≤ 140737488351232) :
  Calls Try.prog 12 #[.slice a0 len0 cap0] w fun e w' => e = .returned (.bool true) ∧ Below w.heap.size w w' := by
 obtain ⟨l0, rfl, hr0, hm0, hw0, hc0⟩ := ReadsInt.ofRowC w0
 obtain ⟨k, h⟩ := P l0 hm0 y0 hw0
 refine (laws_FnFirst.calls k _ _ l0 true w (Kd.C_of_reads (d := (0 : Int)) (h1 := fun _ => rfl) hr0) hc0 rfl h).mono ?_
 rintro e w' ⟨rfl, hd⟩
 exact ⟨rfl, hd⟩

end Go.Proofs.Ytankmdbbgepmbaa.PFnFirst
