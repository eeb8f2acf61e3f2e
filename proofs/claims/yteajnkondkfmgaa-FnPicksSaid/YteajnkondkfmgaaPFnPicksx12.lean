-- Made by a program of this session out of the translation. Lean checks it.
import Derived.Test.YteajnkondkfmgaaPFnPicksx0
import Derived.Test.YteajnkondkfmgaaPFnPicksx4
import Derived.Test.YteajnkondkfmgaaPFnPicksx9
import Derived.Test.YteajnkondkfmgaaPFnPicksx10
import Derived.Test.YteajnkondkfmgaaPFnPicksx11
namespace Go.Proofs.Yteajnkondkfmgaa.PFnPicks
open Go.RowKit Go.Proofs.YteajnkondkfmgaaW.PrintWords Go.Proofs.YteajnkondkfmgaaW.PrintLast Go.Proofs.YteajnkondkfmgaaW.PrintMore
attribute [local go_sem] max2_int min2_int max_two min_two max_three min_three max_four min_four   -- for this text's walks alone
set_option linter.unusedVariables false
set_option linter.unusedSimpArgs false

/-! ### impl_Picks: function 36 -/
mutual
def impl_Picks.j0 : Nat → List (S48) → Bool → List (S79) → Option ((List (S50)) × Bool)
 | 0, _, _, _ => none
 | k + 1, x1, x22, x371000 => if x22 = true then (some (([] : List (S50)), false)) else ((impl_copyStock.f k x371000).bind fun t373 => ((impl_copyItems.f x1).bind fun t377 => (impl_Picks.l0 k ([] : List (S50)) t377 t373)))
def impl_Picks.l0 : Nat → List (S50) → List (S48) → List (S79) → Option ((List (S50)) × Bool)
 | 0, _, _, _ => none
 | k + 1, x6, x8, x377000 => if (x8.length : Int) > 0 then (impl_Picks.l1 k x6 x8 ([] : List (S50)) 0 x377000 (x377000.length : Int) 0 x377000) else (some (x6, true))
def impl_Picks.l1 : Nat → List (S50) → List (S48) → List (S50) → Int → List (S79) → Int → Int → List (S79) → Option ((List (S50)) × Bool)
 | 0, _, _, _, _, _, _, _, _ => none
 | k + 1, x6, x8, x9, x10, x31, x32, x33, x377000 => if x33 < x32 then (if 0 ≤ x33 then (if x33 < (x31.length : Int) then ((impl_could.f k ((rd_T79 x31 x33).f0) ((rd_T79 x31 x33).f1) ((rd_T79 x31 x33).f2) x8).bind fun bt382 => (if bt382.2 > x10 then (impl_Picks.l1 k x6 x8 bt382.1 bt382.2 x31 x32 (wrap64 (x33 + 1)) x377000) else (impl_Picks.l1 k x6 x8 x9 x10 x31 x32 (wrap64 (x33 + 1)) x377000))) else (none)) else (none)) else (if x10 = 0 then (some (([] : List (S50)), false)) else (if x6.length + x9.length < 5864062014805 then ((impl_HoldAll.f k x377000 x9).bind fun bt389 => ((impl_less.f k x8 x9).bind fun t393 => (impl_Picks.l0 k (x6 ++ x9) t393 bt389.1))) else (none)))
end
def impl_Picks.f (k : Nat) (l0_0 : List (S79)) (l1 : List (S48)) : Option ((List (S50)) × Bool) := (impl_StockOk.f k l0_0).bind fun t371 => (if t371 = true then ((impl_ItemsOk.f k l1).bind fun t372 => (impl_Picks.j0 k l1 (!t372) l0_0)) else (impl_Picks.j0 k l1 true l0_0))
theorem impl_Picks.mono_l : ∀ k, (∀ y0 y1 y2, LeO (impl_Picks.j0 k y0 y1 y2) (impl_Picks.j0 (k + 1) y0 y1 y2)) ∧ (∀ y0 y1 y2, LeO (impl_Picks.l0 k y0 y1 y2) (impl_Picks.l0 (k + 1) y0 y1 y2)) ∧ (∀ y0 y1 y2 y3 y4 y5 y6 y7, LeO (impl_Picks.l1 k y0 y1 y2 y3 y4 y5 y6 y7) (impl_Picks.l1 (k + 1) y0 y1 y2 y3 y4 y5 y6 y7))
 | 0 => ⟨fun _ _ _ r h => by simp [impl_Picks.j0] at h, fun _ _ _ r h => by simp [impl_Picks.l0] at h, fun _ _ _ _ _ _ _ _ r h => by simp [impl_Picks.l1] at h⟩
 | k + 1 => by
  obtain ⟨ih0, ih1, ih2⟩ := impl_Picks.mono_l k
  refine ⟨?_, ?_, ?_⟩
  {
  intro y0 y1 y2
  unfold impl_Picks.j0
  have j0 := @impl_HoldAll.mono
  have j1 := @impl_ItemsOk.mono
  have j2 := @impl_StockOk.mono
  have j3 := @impl_copyStock.mono
  have j4 := @impl_could.mono
  have j5 := @impl_less.mono
  exact qL
  }
  {
  intro y0 y1 y2
  unfold impl_Picks.l0
  have j0 := @impl_HoldAll.mono
  have j1 := @impl_ItemsOk.mono
  have j2 := @impl_StockOk.mono
  have j3 := @impl_copyStock.mono
  have j4 := @impl_could.mono
  have j5 := @impl_less.mono
  exact qL
  }
  {
  intro y0 y1 y2 y3 y4 y5 y6 y7
  unfold impl_Picks.l1
  have j0 := @impl_HoldAll.mono
  have j1 := @impl_ItemsOk.mono
  have j2 := @impl_StockOk.mono
  have j3 := @impl_copyStock.mono
  have j4 := @impl_could.mono
  have j5 := @impl_less.mono
  exact qL
  }
theorem impl_Picks.mono : ∀ a0 a1 k, LeO (impl_Picks.f k a0 a1) (impl_Picks.f (k + 1) a0 a1) := by
 intro a0 a1 k
 obtain ⟨ih0, ih1, ih2⟩ := impl_Picks.mono_l k
 unfold impl_Picks.f
 have j0 := @impl_HoldAll.mono
 have j1 := @impl_ItemsOk.mono
 have j2 := @impl_StockOk.mono
 have j3 := @impl_copyStock.mono
 have j4 := @impl_could.mono
 have j5 := @impl_less.mono
 exact qL
set_option maxHeartbeats 8000000 in
set_option maxRecDepth 100000 in
theorem impl_Picks.calls (k : Nat) (A0_0 : Option Addr) (c0_0 : Nat) (l0_0 : List (S79)) (A1 : Option Addr) (c1 : Nat) (l1 : List (S48)) (r1 : List (S50)) (r2 : Bool) (w : World) (hr0_0 : Kd.C k79 w A0_0 l0_0.length l0_0) (hc0_0 : l0_0.length ≤ c0_0) (hr1 : Kd.C k48 w A1 l1.length l1) (hc1 : l1.length ≤ c1) (h : impl_Picks.f k l0_0 l1 = some (r1, r2)) :
  Calls Try.prog 36 #[.agg #[.slice A0_0 l0_0.length c0_0], .slice A1 l1.length c1] w fun e w' => ∃ v0_ : Value, e = .returned (.tuple #[v0_, .bool r2]) ∧ Kd.R k50 50 w' w.heap.size (fun _ => True) v0_ r1 ∧ Below w.heap.size w w' := by
 have hu26 := Try.underlying26
 have hu79 := Try.underlying79
 have HR0_0 := aM hr0_0
 have HC0_0 := aM hc0_0
 clear hr0_0 hc0_0
 have HR1 := aM hr1
 have HC1 := aM hc1
 clear hr1 hc1
 have HB := aM (Below.refl w.heap.size w)
 have H : ((impl_StockOk.f k l0_0).bind fun t371 => (if t371 = true then ((impl_ItemsOk.f k l1).bind fun t372 => (impl_Picks.j0 k l1 (!t372) l0_0)) else (impl_Picks.j0 k l1 true l0_0))) = some (r1, r2) := h
 clear h
 have HC3 := aM H
 clear H
 go_enter Try.func36, Try.ntmps36
 go_upto_region 1 with (first | ((with_reducible refine gate_dst (N := 2) rfl ?_); refine bx_ 2 #[.slice A0_0 l0_0.length c0_0] 26 ?_; intro gb370 hg w4 hbox hb; have BK370 := aM (hbox); have GW370 := aM (bz_ w hg qz1); have GE370 := GW370; replace HB := bS_ hb; clear hb hbox hg))
 (try simp only [Act.put, List.setIfInBounds_toArray, List.set_cons_zero, List.set_cons_succ])
 go_cut [22] (fun v22 wc => ∃ (kq : Nat) (x22_2 : Bool), v22 = .bool x22_2 ∧ Aside0 (impl_Picks.j0 kq l1 x22_2 l0_0 = some (r1, r2)) ∧ Aside0 (kq ≤ k) ∧ Aside0 (wc.heap[gb370]? = some (.cells #[(.slice A0_0 l0_0.length c0_0)] 26 (0, 0))) ∧ Aside0 (Below w.heap.size w wc))
 case first =>
  have H := HC3.out
  clear HC3
  replace H := Option.bind_eq_some_iff.mp H
  obtain ⟨t371, A50, H⟩ := H
  replace H : (if t371 = true then ((impl_ItemsOk.f k l1).bind fun t372 => (impl_Picks.j0 k l1 (!t372) l0_0)) else (impl_Picks.j0 k l1 true l0_0)) = some (r1, r2) := H
  have A5 := aM A50
  clear A50
  by_cases c6 : t371 = true
  {
  subst c6
  rw [if_pos rfl] at H
  replace H := Option.bind_eq_some_iff.mp H
  obtain ⟨t372, A70, H⟩ := H
  replace H : (impl_Picks.j0 k l1 (!t372) l0_0) = some (r1, r2) := H
  have A7 := aM A70
  clear A70
  have H' := aM H
  clear H
  obtain ⟨hcz8_0, hfz8_0⟩ := bf_ BK370.out
  go_wp2_with (first | ((with_reducible refine gate_callee (f := 21) rfl ?_); refine goesL_ (some 16) rfl rfl Try.func21 (by kernel_rfl) rfl #[.agg #[.slice A0_0 l0_0.length c0_0]] rfl qz4 ?_; (with_reducible refine (impl_StockOk.calls k _ _ l0_0 true _ ?side1 ?side2 A5.out).mono ?_); (case side1 => exact qz6); (case side2 => exact HC0_0.out); rintro e w9 ⟨rfl, hb⟩; refine ⟨_, rfl, ?_⟩; replace BK370 := bB_ BK370 hb; replace HB := bS_ hb; (try clear hb); (try clear hb2); (try clear hk); (try clear hi)) | (go_at_call 43; (with_reducible refine (impl_ItemsOk.calls k _ _ l1 t372 _ ?side1 ?side2 A7.out).mono ?_); (case side1 => repeat (first | exact (Kd.C_below HR1.out HB.out) | (with_reducible refine Kd.C_alloc ?_ _) | (with_reducible refine Kd.C_drewN ?_ _) | (with_reducible refine Kd.C_drew ?_))); (case side2 => exact HC1.out); rintro e w10 ⟨rfl, hb⟩; replace BK370 := bB_ BK370 hb; replace HB := bS_ hb; (try clear hb); (try clear hb2); (try clear hk); (try clear hi)))
  go_meet
  case rel => exact ⟨_, (!t372), qz5, H', ⟨by first | omega | exact Nat.le_refl _⟩, ⟨bk_ BK370.out⟩, ⟨qz1⟩⟩
  }
  {
  replace c6 := Bool.eq_false_iff.mpr c6
  subst c6
  rw [if_neg (show ¬ (false = true) by decide)] at H
  have H' := aM H
  clear H
  obtain ⟨hcz11_0, hfz11_0⟩ := bf_ BK370.out
  go_wp2_with (first | ((with_reducible refine gate_callee (f := 21) rfl ?_); refine goesL_ (some 16) rfl rfl Try.func21 (by kernel_rfl) rfl #[.agg #[.slice A0_0 l0_0.length c0_0]] rfl qz4 ?_; (with_reducible refine (impl_StockOk.calls k _ _ l0_0 false _ ?side1 ?side2 A5.out).mono ?_); (case side1 => exact qz6); (case side2 => exact HC0_0.out); rintro e w12 ⟨rfl, hb⟩; refine ⟨_, rfl, ?_⟩; replace BK370 := bB_ BK370 hb; replace HB := bS_ hb; (try clear hb); (try clear hb2); (try clear hk); (try clear hi)))
  go_meet
  case rel => exact ⟨_, (true), qz5, H', ⟨by first | omega | exact Nat.le_refl _⟩, ⟨bk_ BK370.out⟩, ⟨qz1⟩⟩
  }
 case rest =>
  clear HC3
  try clear c1
  try clear c2
  try clear p2
  try clear c3
  try clear c6
  try clear hcz11_0
  try clear hcz8_0
  try clear hfz11_0
  try clear hfz8_0
  obtain ⟨kq, x22_2, rfl, HA, HJ2, BK370, HB⟩ := hcut
  cases kq with
  | zero => exact absurd HA.out (by simp [impl_Picks.j0])
  | succ kj2 =>
   have H := HA.out
   clear HA
   simp only [impl_Picks.j0] at H
   by_cases c13 : x22_2 = true
   {
   subst c13
   rw [if_pos rfl] at H
   simp only [Option.some.injEq, Prod.mk.injEq] at H
   obtain ⟨rfl, rfl⟩ := H
   go_wp2
   go_ret2
   exact ⟨_, qzw, by first | exact Kd.R_nil _ _ _ _ _ | exact Kd.N_nil _ _ _ _ _ | exact Kd.V_nil _ _ _ _ _ | exact Kd.Q_nil _ _ _ _ _ | exact Kd.S_nil _ _ _ _ _, qz1⟩
   }
   {
   replace c13 := Bool.eq_false_iff.mpr c13
   subst c13
   rw [if_neg (show ¬ (false = true) by decide)] at H
   replace H := Option.bind_eq_some_iff.mp H
   obtain ⟨t373, A140, H⟩ := H
   replace H : ((impl_copyItems.f l1).bind fun t377 => (impl_Picks.l0 kj2 ([] : List (S50)) t377 t373)) = some (r1, r2) := H
   have A14 := aM A140
   clear A140
   replace H := Option.bind_eq_some_iff.mp H
   obtain ⟨t377, A150, H⟩ := H
   replace H : (impl_Picks.l0 kj2 ([] : List (S50)) t377 t373) = some (r1, r2) := H
   have A15 := aM A150
   clear A150
   have H' := aM H
   clear H
   obtain ⟨hcz16_0, hfz16_0⟩ := bf_ BK370.out
   go_wp2_with (first | ((with_reducible refine gate_callee (f := 65) rfl ?_); refine goesL_ (some 24) rfl rfl Try.func65 (by kernel_rfl) rfl #[.agg #[.slice A0_0 l0_0.length c0_0]] rfl qz4 ?_; (with_reducible refine (impl_copyStock.calls kj2 _ _ l0_0 t373 _ ?side1 ?side2 A14.out).mono ?_); (case side1 => exact qz6); (case side2 => exact HC0_0.out); rintro e w17 ⟨v374, rfl, ho0, hb⟩; refine ⟨_, rfl, ?_⟩; have HO375 := aM (Kd.S_lower ho0 (below_size qz1)); replace BK370 := bB_ BK370 hb; replace HB := bS_ hb; (try clear hb); (try clear hb2); (try clear hk); (try clear hi); (try clear ho0)) | ((with_reducible refine gate_dst (N := 7) rfl ?_); refine bx_ 7 #[.slice none 0 0] 26 ?_; intro gb376 hg w18 hbox hb; replace HO375 := aM (Kd.S_below (rs_ HO375.out) hb); have BK376 := aM (hbox); have GW376 := aM (bz_ w hg qz1); have GE376 := GW376; replace HB := bS_ hb; obtain ⟨NB370_376, NB376_370⟩ := nb_ hg (bk_ BK370.out); replace BK370 := bB_ BK370 hb; clear hb hbox hg; obtain ⟨Ao19, co19, eo19⟩ := Kd.S_slice HO375.out; subst eo19; have hnb20 := NB376_370.out; have hnc20 := NB370_376.out; obtain ⟨hcz21_0, hfz21_0⟩ := bf_ BK376.out) | ((with_reducible refine gate_callee (f := 78) rfl ?_); refine goesL_ (some 26) rfl rfl Try.func78 (by kernel_rfl) rfl #[.slice A1 l1.length c1] rfl qz4 ?_; (with_reducible refine (impl_copyItems.calls _ _ l1 t377 _ ?side1 ?side2 A15.out).mono ?_); (case side1 => exact Kd.C_below HR1.out qz1); (case side2 => exact HC1.out); rintro e w22 ⟨v378, rfl, ho0, hb⟩; refine ⟨_, rfl, ?_⟩; replace HO375 := aM (Kd.S_below (by (with_reducible repeat (first | apply Kd.S_alloc | apply Kd.S_drewN | apply Kd.S_drew)); exact (Kd.S_mono (Kd.S_far (p := ⟨gb376, 0, none⟩) (Kd.S_types HO375.out BK376.out (by decide)) (fun _ hk => hk.2) (.slice Ao19 t373.length co19)) (fun _ h_ => h_.1))) hb); have HO379 := aM (Kd.R_lower ho0 (below_size qz1)); replace BK370 := aM (blk_below (g := gb370) (o := .cells #[.slice A0_0 l0_0.length c0_0] 26 (0, 0)) (bk2_ BK370.out) hb); replace BK376 := aM (blk_below (g := gb376) (o := .cells #[.slice Ao19 t373.length co19] 26 (0, 0)) (by (with_reducible repeat (first | refine blk_drewN ?_ _ | refine blk_drew ?_ | refine blk_alloc ?_ _)); refine blk_put (cs := #[.slice none 0 0]) ?_ 0 _ rfl; exact bk_ BK376.out) hb); replace HB := bS_ hb; (try clear hb); (try clear hb2); (try clear hk); (try clear hi); (try clear ho0)))
   go_loopg [6, 8] kj2 (fun kq v6 v8 w' => ∃ (x6_2 : List (S50)) (x8_2 : List (S48)) (x377000_2 : List (S79)) (u377000 : Value), Aside0 (impl_Picks.l0 kq x6_2 x8_2 x377000_2 = some (r1, r2)) ∧ Aside0 (kq ≤ kj2) ∧ Aside0 (Kd.R k50 50 w' w.heap.size (fun _ => True) v6 x6_2) ∧ Aside0 (Kd.R k48 48 w' w.heap.size (fun _ => True) v8 x8_2) ∧ Aside0 (Kd.S k79 79 w' w.heap.size (fun _ => True) u377000 x377000_2) ∧ Aside0 (w'.heap[gb370]? = some (.cells #[(.slice A0_0 l0_0.length c0_0)] 26 (0, 0))) ∧ Aside0 (w'.heap[gb376]? = some (.cells #[u377000] 26 (0, 0))) ∧ Aside0 (Below w.heap.size w w'))
   case atStart => exact ⟨(([] : List (S50))), (t377), (t373), (.slice Ao19 t373.length co19), H', ⟨Nat.le_refl _⟩, ⟨by first | exact Kd.R_nil _ _ _ _ _ | exact Kd.N_nil _ _ _ _ _ | exact Kd.V_nil _ _ _ _ _ | exact Kd.Q_nil _ _ _ _ _ | exact Kd.S_nil _ _ _ _ _⟩, ⟨rr_ HO379.out⟩, ⟨rs_ HO375.out⟩, ⟨bk_ BK370.out⟩, ⟨bk_ BK376.out⟩, ⟨qz1⟩⟩
   case round =>
    clear H'
    try clear c1
    try clear c2
    try clear p2
    try clear c3
    try clear c6
    try clear c7
    try clear c13
    try clear c20
    try clear c21
    try clear hcz11_0
    try clear hcz16_0
    try clear hcz21_0
    try clear hcz8_0
    try clear hfz11_0
    try clear hfz16_0
    try clear hfz21_0
    try clear hfz8_0
    try clear p2
    obtain ⟨x6_2, x8_2, x377000_2, u377000, HA, HK2, HO_6, HO_8, HO_377000, BK370, BK376, HB⟩ := hrel
    cases gk with
    | zero => exact absurd HA.out (by simp [impl_Picks.l0])
    | succ k2 =>
     have H := HA.out
     clear HA
     simp only [impl_Picks.l0] at H
     by_cases c23 : (x8_2.length : Int) > 0
     {
     rw [if_pos c23] at H
     have c23b0 := decide_eq_true c23
     have c23b1 : decide (0 < x8_2.length) = true := decide_eq_true (by omega)
     clear c23
     have H' := aM H
     clear H
     obtain ⟨Ao24, co24, eo24⟩ := Kd.R_slice HO_8.out
     subst eo24
     have hnb25 := NB376_370.out
     have hnc25 := NB370_376.out
     obtain ⟨hcz26_0, hfz26_0⟩ := bf_ BK376.out
     obtain ⟨Ao27, co27, eo27⟩ := Kd.S_slice HO_377000.out
     subst eo27
     go_wp2
     go_loopg [9, 10, 33] k2 (fun kq v9 v10 v33 w' => ∃ (x9_3 : List (S50)) (x10_3 : Int) (x33_3 : Int), v10 = .int .i64 x10_3 ∧ v33 = .int .i64 x33_3 ∧ Aside0 (impl_Picks.l1 kq x6_2 x8_2 x9_3 x10_3 x377000_2 (x377000_2.length : Int) x33_3 x377000_2 = some (r1, r2)) ∧ Aside0 (kq ≤ k2) ∧ Aside0 (Kd.R k50 50 w' w.heap.size (fun k_ => some k_ ≠ (v9 : Value).ownBlock) u6 x6_2) ∧ Aside0 (Kd.R k48 48 w' w.heap.size (fun _ => True) (.slice Ao24 x8_2.length co24) x8_2) ∧ Aside0 (Kd.R k50 50 w' w.heap.size (fun k_ => some k_ ≠ (u6 : Value).ownBlock) v9 x9_3) ∧ Aside0 (Kd.S k79 79 w' w.heap.size (fun _ => True) (.slice Ao27 x377000_2.length co27) x377000_2) ∧ Aside0 (Kd.S k79 79 w' w.heap.size (fun _ => True) (.slice Ao27 x377000_2.length co27) x377000_2) ∧ Aside0 (w'.heap[gb370]? = some (.cells #[(.slice A0_0 l0_0.length c0_0)] 26 (0, 0))) ∧ Aside0 (w'.heap[gb376]? = some (.cells #[(.slice Ao27 x377000_2.length co27)] 26 (0, 0))) ∧ Aside0 (Below w.heap.size w w'))
     case atStart => exact ⟨(([] : List (S50))), (0), (0), qz5, qz5, H', ⟨Nat.le_refl _⟩, ⟨by (with_reducible repeat (first | apply Kd.R_alloc | apply Kd.R_drewN | apply Kd.R_drew)); exact Kd.R_mono HO_6.out (fun _ hk => (by simp [Value.ownBlock]))⟩, ⟨rr_ HO_8.out⟩, ⟨by first | exact Kd.R_nil _ _ _ _ _ | exact Kd.N_nil _ _ _ _ _ | exact Kd.V_nil _ _ _ _ _ | exact Kd.Q_nil _ _ _ _ _ | exact Kd.S_nil _ _ _ _ _⟩, ⟨rs_ HO_377000.out⟩, ⟨rs_ HO_377000.out⟩, ⟨bk_ BK370.out⟩, ⟨bk_ BK376.out⟩, ⟨qz1⟩⟩
     case round =>
      clear H'
      try clear c1
      try clear c2
      try clear p2
      try clear c3
      try clear c6
      try clear c7
      try clear c13
      try clear c20
      try clear c21
      try clear c23
      try clear c23b0
      try clear c23b1
      try clear c25
      try clear hcz11_0
      try clear hcz16_0
      try clear hcz21_0
      try clear hcz26_0
      try clear hcz8_0
      try clear hfz11_0
      try clear hfz16_0
      try clear hfz21_0
      try clear hfz26_0
      try clear hfz8_0
      try clear p2
      obtain ⟨x9_3, x10_3, x33_3, rfl, rfl, HA, HK3, HO_6, HO_8, HO_9, HO_31, HO_377000, BK370, BK376, HB⟩ := hrel
      cases gk with
      | zero => exact absurd HA.out (by simp [impl_Picks.l1])
      | succ k3 =>
       have H := HA.out
       clear HA
       simp only [impl_Picks.l1] at H
       by_cases c28 : x33_3 < (x377000_2.length : Int)
       {
       rw [if_pos c28] at H
       have c28b0 := decide_eq_true c28
       clear c28
       by_cases c29 : 0 ≤ x33_3
       {
       rw [if_pos c29] at H
       have c29b0 := decide_eq_true c29
       clear c29
       by_cases c30 : x33_3 < (x377000_2.length : Int)
       {
       rw [if_pos c30] at H
       have c30b0 := decide_eq_true c30
       clear c30
       replace H := Option.bind_eq_some_iff.mp H
       obtain ⟨⟨t382, t385⟩, A310, H⟩ := H
       replace H : (if t385 > x10_3 then (impl_Picks.l1 k3 x6_2 x8_2 t382 t385 x377000_2 (x377000_2.length : Int) (wrap64 (x33_3 + 1)) x377000_2) else (impl_Picks.l1 k3 x6_2 x8_2 x9_3 x10_3 x377000_2 (x377000_2.length : Int) (wrap64 (x33_3 + 1)) x377000_2)) = some (r1, r2) := H
       have A31 := aM A310
       clear A310
       by_cases c32 : t385 > x10_3
       {
       rw [if_pos c32] at H
       have c32b0 := decide_eq_true c32
       clear c32
       have H' := aM H
       clear H
       have p380 : 0 ≤ (x33_3 : Int) := dt_
       have q380 : x33_3 < (x377000_2.length : Int) := dt_
       obtain ⟨ad380, A380_2, c380_2, e380, hx380_0, hx380_1, hx380_2, hl380_2, hi380_2⟩ := at_T79 (Kd.S_reads' HO_31.out).2.2 x33_3 p380 q380
       cases e380
       obtain ⟨ce380, hce380, hMe380, hcc380⟩ := Kd.S_get HO_31.out z79 x33_3 p380 (by first | exact q380 | exact dt_ | (have e_ := (Kd.S_reads' HO_31.out).1; omega))
       obtain ⟨ve380_2, rfl, ge380_2⟩ := k79_openM hMe380
       have hv380_2 := hcc380 2 _ rfl
       rw [add_field _ _ 2 (by omega)] at hv380_2
       replace hv380_2 := Option.some.inj (hv380_2.symm.trans hx380_2)
       rw [hv380_2] at ge380_2
       have HL380_2 := aM (show Kd.R k72 72 _ _ _ _ ((rd_T79 x377000_2 x33_3).f2) from ge380_2)
       clear hv380_2 ge380_2 hcc380 hce380
       have HR380_2 := aM hi380_2
       have HC380_2 := aM hl380_2
       clear hi380_2 hl380_2
       replace p380 := eq_true p380
       replace q380 := eq_true q380
       go_wp2_with (first | ((with_reducible refine gate_dst (N := 12) rfl ?_); refine bx_ 12 #[.int .i64 0, .int .i64 0, .slice none 0 0] 79 ?_; intro gb381 hg w33 hbox hb; replace HO_6 := aM (Kd.R_below (rr_ HO_6.out) hb); replace HO_8 := aM (Kd.R_below (rr_ HO_8.out) hb); replace HO_9 := aM (Kd.R_below (rr_ HO_9.out) hb); replace HO_31 := aM (Kd.S_below (Kd.S_elderB (rs_ HO_31.out) gb381 (Nat.le_of_eq hg.symm)) hb); replace HO_377000 := aM (Kd.S_below (Kd.S_elderB (rs_ HO_377000.out) gb381 (Nat.le_of_eq hg.symm)) hb); replace HL380_2 := aM (Kd.R_below (rr_ HL380_2.out) hb); replace HR380_2 := aM (Kd.C_below qz31 hb); have BK381 := aM (hbox); have GW381 := aM (bz_ w hg qz1); have GE381 := GW381; replace HB := bS_ hb; obtain ⟨NB370_381, NB381_370⟩ := nb_ hg (bk_ BK370.out); replace BK370 := bB_ BK370 hb; obtain ⟨NB376_381, NB381_376⟩ := nb_ hg (bk_ BK376.out); replace BK376 := bB_ BK376 hb; clear hb hbox hg; have hnb34 := NB381_370.out; have hnc34 := NB370_381.out; have hnb35 := NB381_376.out; have hnc35 := NB376_381.out; obtain ⟨hcz36_0, hcz36_1, hcz36_2, hfz36_0, hfz36_1, hfz36_2⟩ := b6_ BK381.out) | ((with_reducible refine gate_callee (f := 79) rfl ?_); refine goesL_ (some 40) rfl rfl Try.func79 (by kernel_rfl) rfl #[.agg #[.int .i64 ((rd_T79 x377000_2 x33_3).f0), .int .i64 ((rd_T79 x377000_2 x33_3).f1), .slice A380_2 ((rd_T79 x377000_2 x33_3).f2).length c380_2], .slice Ao24 x8_2.length co24] rfl qz4 ?_; (with_reducible refine (impl_could.calls k3 ((rd_T79 x377000_2 x33_3).f0) ((rd_T79 x377000_2 x33_3).f1) _ _ ((rd_T79 x377000_2 x33_3).f2) _ _ x8_2 t382 t385 _ ?side1 ?side2 ?side3 ?side4 A31.out).mono ?_); (case side1 => repeat (first | exact ((Kd.R_reads' (by (with_reducible repeat (first | apply Kd.R_alloc | apply Kd.R_drewN | apply Kd.R_drew)); exact (Kd.R_mono (Kd.R_far (p := ⟨gb381, 2, none⟩) (Kd.R_far (p := ⟨gb381, 1, none⟩) (Kd.R_far (p := ⟨gb381, 0, none⟩) (Kd.R_types HL380_2.out BK381.out (by decide)) (fun _ hk => hk.2) (.int .i64 ((rd_T79 x377000_2 x33_3).f0))) (fun _ hk => hk.2) (.int .i64 ((rd_T79 x377000_2 x33_3).f1))) (fun _ hk => hk.2) (.slice A380_2 ((rd_T79 x377000_2 x33_3).f2).length c380_2)) (fun _ h_ => h_.1)))).2.2) | (with_reducible refine Kd.C_alloc ?_ _) | (with_reducible refine Kd.C_drewN ?_ _) | (with_reducible refine Kd.C_drew ?_))); (case side2 => exact HC380_2.out); (case side3 => refine (Kd.R_reads' (e := 48) (base := w.heap.size) (ok := fun k_ => True) (n := x8_2.length) (c := co24) ?_).2.2; exact (by (with_reducible repeat (first | apply Kd.R_alloc | apply Kd.R_drewN | apply Kd.R_drew)); exact (Kd.R_mono (Kd.R_far (p := ⟨gb381, 2, none⟩) (Kd.R_far (p := ⟨gb381, 1, none⟩) (Kd.R_far (p := ⟨gb381, 0, none⟩) (Kd.R_types HO_8.out BK381.out (by decide)) (fun _ hk => hk.2) (.int .i64 ((rd_T79 x377000_2 x33_3).f0))) (fun _ hk => hk.2) (.int .i64 ((rd_T79 x377000_2 x33_3).f1))) (fun _ hk => hk.2) (.slice A380_2 ((rd_T79 x377000_2 x33_3).f2).length c380_2)) (fun _ h_ => h_.1)))); (case side4 => exact (Kd.R_reads' HO_8.out).2.1); rintro e w37 ⟨v383, rfl, ho0, hb⟩; refine ⟨_, rfl, ?_⟩; replace HO_8 := aM (Kd.R_below (by (with_reducible repeat (first | apply Kd.R_alloc | apply Kd.R_drewN | apply Kd.R_drew)); exact (Kd.R_mono (Kd.R_far (p := ⟨gb381, 2, none⟩) (Kd.R_far (p := ⟨gb381, 1, none⟩) (Kd.R_far (p := ⟨gb381, 0, none⟩) (Kd.R_types HO_8.out BK381.out (by decide)) (fun _ hk => hk.2) (.int .i64 ((rd_T79 x377000_2 x33_3).f0))) (fun _ hk => hk.2) (.int .i64 ((rd_T79 x377000_2 x33_3).f1))) (fun _ hk => hk.2) (.slice A380_2 ((rd_T79 x377000_2 x33_3).f2).length c380_2)) (fun _ h_ => h_.1))) hb); replace HO_31 := aM (Kd.S_below (by (with_reducible repeat (first | apply Kd.S_alloc | apply Kd.S_drewN | apply Kd.S_drew)); exact (Kd.S_mono (Kd.S_far (p := ⟨gb381, 2, none⟩) (Kd.S_far (p := ⟨gb381, 1, none⟩) (Kd.S_far (p := ⟨gb381, 0, none⟩) (Kd.S_mono HO_31.out (fun k_ hk => (⟨hk, hk.2⟩ : _ ∧ k_ ≠ gb381))) (fun _ hk => hk.2) (.int .i64 ((rd_T79 x377000_2 x33_3).f0))) (fun _ hk => hk.2) (.int .i64 ((rd_T79 x377000_2 x33_3).f1))) (fun _ hk => hk.2) (.slice A380_2 ((rd_T79 x377000_2 x33_3).f2).length c380_2)) (fun _ h_ => h_.1))) hb); replace HO_377000 := aM (Kd.S_below (by (with_reducible repeat (first | apply Kd.S_alloc | apply Kd.S_drewN | apply Kd.S_drew)); exact (Kd.S_mono (Kd.S_far (p := ⟨gb381, 2, none⟩) (Kd.S_far (p := ⟨gb381, 1, none⟩) (Kd.S_far (p := ⟨gb381, 0, none⟩) (Kd.S_mono HO_377000.out (fun k_ hk => (⟨hk, hk.2⟩ : _ ∧ k_ ≠ gb381))) (fun _ hk => hk.2) (.int .i64 ((rd_T79 x377000_2 x33_3).f0))) (fun _ hk => hk.2) (.int .i64 ((rd_T79 x377000_2 x33_3).f1))) (fun _ hk => hk.2) (.slice A380_2 ((rd_T79 x377000_2 x33_3).f2).length c380_2)) (fun _ h_ => h_.1))) hb); have HO384 := aM (Kd.R_lower (Kd.R_new' (Kd.R_new' ho0 (Kd.R_lt (by (with_reducible repeat (first | apply Kd.R_alloc | apply Kd.R_drewN | apply Kd.R_drew)); exact (Kd.R_mono (Kd.R_far (p := ⟨gb381, 2, none⟩) (Kd.R_far (p := ⟨gb381, 1, none⟩) (Kd.R_far (p := ⟨gb381, 0, none⟩) (Kd.R_types HO_6.out BK381.out (by decide)) (fun _ hk => hk.2) (.int .i64 ((rd_T79 x377000_2 x33_3).f0))) (fun _ hk => hk.2) (.int .i64 ((rd_T79 x377000_2 x33_3).f1))) (fun _ hk => hk.2) (.slice A380_2 ((rd_T79 x377000_2 x33_3).f2).length c380_2)) (fun _ h_ => h_.1))))) (Kd.R_lt (by (with_reducible repeat (first | apply Kd.R_alloc | apply Kd.R_drewN | apply Kd.R_drew)); exact (Kd.R_mono (Kd.R_far (p := ⟨gb381, 2, none⟩) (Kd.R_far (p := ⟨gb381, 1, none⟩) (Kd.R_far (p := ⟨gb381, 0, none⟩) (Kd.R_types HO_9.out BK381.out (by decide)) (fun _ hk => hk.2) (.int .i64 ((rd_T79 x377000_2 x33_3).f0))) (fun _ hk => hk.2) (.int .i64 ((rd_T79 x377000_2 x33_3).f1))) (fun _ hk => hk.2) (.slice A380_2 ((rd_T79 x377000_2 x33_3).f2).length c380_2)) (fun _ h_ => h_.1))))) (below_size qz1)); replace HO_6 := aM (Kd.R_elder' (by (with_reducible repeat (first | apply Kd.R_alloc | apply Kd.R_drewN | apply Kd.R_drew)); exact (Kd.R_mono (Kd.R_far (p := ⟨gb381, 2, none⟩) (Kd.R_far (p := ⟨gb381, 1, none⟩) (Kd.R_far (p := ⟨gb381, 0, none⟩) (Kd.R_types HO_6.out BK381.out (by decide)) (fun _ hk => hk.2) (.int .i64 ((rd_T79 x377000_2 x33_3).f0))) (fun _ hk => hk.2) (.int .i64 ((rd_T79 x377000_2 x33_3).f1))) (fun _ hk => hk.2) (.slice A380_2 ((rd_T79 x377000_2 x33_3).f2).length c380_2)) (fun _ h_ => h_.1))) (Kd.R_base ho0) hb); replace HO_9 := aM (Kd.R_elder' (by (with_reducible repeat (first | apply Kd.R_alloc | apply Kd.R_drewN | apply Kd.R_drew)); exact (Kd.R_mono (Kd.R_far (p := ⟨gb381, 2, none⟩) (Kd.R_far (p := ⟨gb381, 1, none⟩) (Kd.R_far (p := ⟨gb381, 0, none⟩) (Kd.R_types HO_9.out BK381.out (by decide)) (fun _ hk => hk.2) (.int .i64 ((rd_T79 x377000_2 x33_3).f0))) (fun _ hk => hk.2) (.int .i64 ((rd_T79 x377000_2 x33_3).f1))) (fun _ hk => hk.2) (.slice A380_2 ((rd_T79 x377000_2 x33_3).f2).length c380_2)) (fun _ h_ => h_.1))) (Kd.R_base ho0) hb); replace BK370 := aM (blk_below (g := gb370) (o := .cells #[.slice A0_0 l0_0.length c0_0] 26 (0, 0)) (bk2_ BK370.out) hb); replace BK376 := aM (blk_below (g := gb376) (o := .cells #[.slice (some ad380) x377000_2.length co27] 26 (0, 0)) (bk2_ BK376.out) hb); replace HR380_2 := aM (Kd.C_below ((Kd.R_reads' (by (with_reducible repeat (first | apply Kd.R_alloc | apply Kd.R_drewN | apply Kd.R_drew)); exact (Kd.R_mono (Kd.R_far (p := ⟨gb381, 2, none⟩) (Kd.R_far (p := ⟨gb381, 1, none⟩) (Kd.R_far (p := ⟨gb381, 0, none⟩) (Kd.R_types HL380_2.out BK381.out (by decide)) (fun _ hk => hk.2) (.int .i64 ((rd_T79 x377000_2 x33_3).f0))) (fun _ hk => hk.2) (.int .i64 ((rd_T79 x377000_2 x33_3).f1))) (fun _ hk => hk.2) (.slice A380_2 ((rd_T79 x377000_2 x33_3).f2).length c380_2)) (fun _ h_ => h_.1)))).2.2) hb); replace HL380_2 := aM (Kd.R_below (by (with_reducible repeat (first | apply Kd.R_alloc | apply Kd.R_drewN | apply Kd.R_drew)); exact (Kd.R_mono (Kd.R_far (p := ⟨gb381, 2, none⟩) (Kd.R_far (p := ⟨gb381, 1, none⟩) (Kd.R_far (p := ⟨gb381, 0, none⟩) (Kd.R_types HL380_2.out BK381.out (by decide)) (fun _ hk => hk.2) (.int .i64 ((rd_T79 x377000_2 x33_3).f0))) (fun _ hk => hk.2) (.int .i64 ((rd_T79 x377000_2 x33_3).f1))) (fun _ hk => hk.2) (.slice A380_2 ((rd_T79 x377000_2 x33_3).f2).length c380_2)) (fun _ h_ => h_.1))) hb); replace BK381 := aM (blk_below (g := gb381) (o := .cells #[.int .i64 ((rd_T79 x377000_2 x33_3).f0), .int .i64 ((rd_T79 x377000_2 x33_3).f1), .slice A380_2 ((rd_T79 x377000_2 x33_3).f2).length c380_2] 79 (0, 0)) (by (with_reducible repeat (first | refine blk_drewN ?_ _ | refine blk_drew ?_ | refine blk_alloc ?_ _)); refine blk_put (cs := #[.int .i64 ((rd_T79 x377000_2 x33_3).f0), .int .i64 ((rd_T79 x377000_2 x33_3).f1), .slice none 0 0]) ?_ 2 _ rfl; (with_reducible repeat (first | refine blk_drewN ?_ _ | refine blk_drew ?_ | refine blk_alloc ?_ _)); refine blk_put (cs := #[.int .i64 ((rd_T79 x377000_2 x33_3).f0), .int .i64 0, .slice none 0 0]) ?_ 1 _ rfl; (with_reducible repeat (first | refine blk_drewN ?_ _ | refine blk_drew ?_ | refine blk_alloc ?_ _)); refine blk_put (cs := #[.int .i64 0, .int .i64 0, .slice none 0 0]) ?_ 0 _ rfl; exact bk_ BK381.out) hb); replace HB := bS_ hb; (try clear hb); (try clear hb2); (try clear hk); (try clear hi); (try clear ho0)))
       go_roundg k3
       case measure => have := HJ2.out; have := HK2.out; have := HK3.out; omega
       case rel => exact ⟨(t382), (t385), (wrap64 (x33_3 + 1)), qz5, qz5, H', ⟨by have := HJ2.out; have := HK2.out; have := HK3.out; omega⟩, ⟨by (with_reducible repeat (first | apply Kd.R_alloc | apply Kd.R_drewN | apply Kd.R_drew)); exact Kd.R_mono HO_6.out (fun _ hk => hk.2)⟩, ⟨rm_ HO_8.out⟩, ⟨by (with_reducible repeat (first | apply Kd.R_alloc | apply Kd.R_drewN | apply Kd.R_drew)); exact Kd.R_mono HO384.out (fun _ hk => hk.1.2)⟩, ⟨by (with_reducible repeat (first | apply Kd.S_alloc | apply Kd.S_drewN | apply Kd.S_drew)); exact Kd.S_mono HO_31.out (fun _ hk => trivial)⟩, ⟨by (with_reducible repeat (first | apply Kd.S_alloc | apply Kd.S_drewN | apply Kd.S_drew)); exact Kd.S_mono HO_377000.out (fun _ hk => trivial)⟩, ⟨bk_ BK370.out⟩, ⟨bk_ BK376.out⟩, ⟨qz1⟩⟩
       }
       {
       rw [if_neg c32] at H
       have c32b0 := decide_eq_false c32
       clear c32
       have H' := aM H
       clear H
       have p380 : 0 ≤ (x33_3 : Int) := dt_
       have q380 : x33_3 < (x377000_2.length : Int) := dt_
       obtain ⟨ad380, A380_2, c380_2, e380, hx380_0, hx380_1, hx380_2, hl380_2, hi380_2⟩ := at_T79 (Kd.S_reads' HO_31.out).2.2 x33_3 p380 q380
       cases e380
       obtain ⟨ce380, hce380, hMe380, hcc380⟩ := Kd.S_get HO_31.out z79 x33_3 p380 (by first | exact q380 | exact dt_ | (have e_ := (Kd.S_reads' HO_31.out).1; omega))
       obtain ⟨ve380_2, rfl, ge380_2⟩ := k79_openM hMe380
       have hv380_2 := hcc380 2 _ rfl
       rw [add_field _ _ 2 (by omega)] at hv380_2
       replace hv380_2 := Option.some.inj (hv380_2.symm.trans hx380_2)
       rw [hv380_2] at ge380_2
       have HL380_2 := aM (show Kd.R k72 72 _ _ _ _ ((rd_T79 x377000_2 x33_3).f2) from ge380_2)
       clear hv380_2 ge380_2 hcc380 hce380
       have HR380_2 := aM hi380_2
       have HC380_2 := aM hl380_2
       clear hi380_2 hl380_2
       replace p380 := eq_true p380
       replace q380 := eq_true q380
       go_wp2_with (first | ((with_reducible refine gate_dst (N := 12) rfl ?_); refine bx_ 12 #[.int .i64 0, .int .i64 0, .slice none 0 0] 79 ?_; intro gb381 hg w38 hbox hb; replace HO_6 := aM (Kd.R_below (rr_ HO_6.out) hb); replace HO_8 := aM (Kd.R_below (rr_ HO_8.out) hb); replace HO_9 := aM (Kd.R_below (rr_ HO_9.out) hb); replace HO_31 := aM (Kd.S_below (Kd.S_elderB (rs_ HO_31.out) gb381 (Nat.le_of_eq hg.symm)) hb); replace HO_377000 := aM (Kd.S_below (Kd.S_elderB (rs_ HO_377000.out) gb381 (Nat.le_of_eq hg.symm)) hb); replace HL380_2 := aM (Kd.R_below (rr_ HL380_2.out) hb); replace HR380_2 := aM (Kd.C_below qz31 hb); have BK381 := aM (hbox); have GW381 := aM (bz_ w hg qz1); have GE381 := GW381; replace HB := bS_ hb; obtain ⟨NB370_381, NB381_370⟩ := nb_ hg (bk_ BK370.out); replace BK370 := bB_ BK370 hb; obtain ⟨NB376_381, NB381_376⟩ := nb_ hg (bk_ BK376.out); replace BK376 := bB_ BK376 hb; clear hb hbox hg; have hnb39 := NB381_370.out; have hnc39 := NB370_381.out; have hnb40 := NB381_376.out; have hnc40 := NB376_381.out; obtain ⟨hcz41_0, hcz41_1, hcz41_2, hfz41_0, hfz41_1, hfz41_2⟩ := b6_ BK381.out) | ((with_reducible refine gate_callee (f := 79) rfl ?_); refine goesL_ (some 40) rfl rfl Try.func79 (by kernel_rfl) rfl #[.agg #[.int .i64 ((rd_T79 x377000_2 x33_3).f0), .int .i64 ((rd_T79 x377000_2 x33_3).f1), .slice A380_2 ((rd_T79 x377000_2 x33_3).f2).length c380_2], .slice Ao24 x8_2.length co24] rfl qz4 ?_; (with_reducible refine (impl_could.calls k3 ((rd_T79 x377000_2 x33_3).f0) ((rd_T79 x377000_2 x33_3).f1) _ _ ((rd_T79 x377000_2 x33_3).f2) _ _ x8_2 t382 t385 _ ?side1 ?side2 ?side3 ?side4 A31.out).mono ?_); (case side1 => repeat (first | exact ((Kd.R_reads' (by (with_reducible repeat (first | apply Kd.R_alloc | apply Kd.R_drewN | apply Kd.R_drew)); exact (Kd.R_mono (Kd.R_far (p := ⟨gb381, 2, none⟩) (Kd.R_far (p := ⟨gb381, 1, none⟩) (Kd.R_far (p := ⟨gb381, 0, none⟩) (Kd.R_types HL380_2.out BK381.out (by decide)) (fun _ hk => hk.2) (.int .i64 ((rd_T79 x377000_2 x33_3).f0))) (fun _ hk => hk.2) (.int .i64 ((rd_T79 x377000_2 x33_3).f1))) (fun _ hk => hk.2) (.slice A380_2 ((rd_T79 x377000_2 x33_3).f2).length c380_2)) (fun _ h_ => h_.1)))).2.2) | (with_reducible refine Kd.C_alloc ?_ _) | (with_reducible refine Kd.C_drewN ?_ _) | (with_reducible refine Kd.C_drew ?_))); (case side2 => exact HC380_2.out); (case side3 => refine (Kd.R_reads' (e := 48) (base := w.heap.size) (ok := fun k_ => True) (n := x8_2.length) (c := co24) ?_).2.2; exact (by (with_reducible repeat (first | apply Kd.R_alloc | apply Kd.R_drewN | apply Kd.R_drew)); exact (Kd.R_mono (Kd.R_far (p := ⟨gb381, 2, none⟩) (Kd.R_far (p := ⟨gb381, 1, none⟩) (Kd.R_far (p := ⟨gb381, 0, none⟩) (Kd.R_types HO_8.out BK381.out (by decide)) (fun _ hk => hk.2) (.int .i64 ((rd_T79 x377000_2 x33_3).f0))) (fun _ hk => hk.2) (.int .i64 ((rd_T79 x377000_2 x33_3).f1))) (fun _ hk => hk.2) (.slice A380_2 ((rd_T79 x377000_2 x33_3).f2).length c380_2)) (fun _ h_ => h_.1)))); (case side4 => exact (Kd.R_reads' HO_8.out).2.1); rintro e w42 ⟨v383, rfl, ho0, hb⟩; refine ⟨_, rfl, ?_⟩; replace HO_8 := aM (Kd.R_below (by (with_reducible repeat (first | apply Kd.R_alloc | apply Kd.R_drewN | apply Kd.R_drew)); exact (Kd.R_mono (Kd.R_far (p := ⟨gb381, 2, none⟩) (Kd.R_far (p := ⟨gb381, 1, none⟩) (Kd.R_far (p := ⟨gb381, 0, none⟩) (Kd.R_types HO_8.out BK381.out (by decide)) (fun _ hk => hk.2) (.int .i64 ((rd_T79 x377000_2 x33_3).f0))) (fun _ hk => hk.2) (.int .i64 ((rd_T79 x377000_2 x33_3).f1))) (fun _ hk => hk.2) (.slice A380_2 ((rd_T79 x377000_2 x33_3).f2).length c380_2)) (fun _ h_ => h_.1))) hb); replace HO_31 := aM (Kd.S_below (by (with_reducible repeat (first | apply Kd.S_alloc | apply Kd.S_drewN | apply Kd.S_drew)); exact (Kd.S_mono (Kd.S_far (p := ⟨gb381, 2, none⟩) (Kd.S_far (p := ⟨gb381, 1, none⟩) (Kd.S_far (p := ⟨gb381, 0, none⟩) (Kd.S_mono HO_31.out (fun k_ hk => (⟨hk, hk.2⟩ : _ ∧ k_ ≠ gb381))) (fun _ hk => hk.2) (.int .i64 ((rd_T79 x377000_2 x33_3).f0))) (fun _ hk => hk.2) (.int .i64 ((rd_T79 x377000_2 x33_3).f1))) (fun _ hk => hk.2) (.slice A380_2 ((rd_T79 x377000_2 x33_3).f2).length c380_2)) (fun _ h_ => h_.1))) hb); replace HO_377000 := aM (Kd.S_below (by (with_reducible repeat (first | apply Kd.S_alloc | apply Kd.S_drewN | apply Kd.S_drew)); exact (Kd.S_mono (Kd.S_far (p := ⟨gb381, 2, none⟩) (Kd.S_far (p := ⟨gb381, 1, none⟩) (Kd.S_far (p := ⟨gb381, 0, none⟩) (Kd.S_mono HO_377000.out (fun k_ hk => (⟨hk, hk.2⟩ : _ ∧ k_ ≠ gb381))) (fun _ hk => hk.2) (.int .i64 ((rd_T79 x377000_2 x33_3).f0))) (fun _ hk => hk.2) (.int .i64 ((rd_T79 x377000_2 x33_3).f1))) (fun _ hk => hk.2) (.slice A380_2 ((rd_T79 x377000_2 x33_3).f2).length c380_2)) (fun _ h_ => h_.1))) hb); have HO384 := aM (Kd.R_lower (Kd.R_new' (Kd.R_new' ho0 (Kd.R_lt (by (with_reducible repeat (first | apply Kd.R_alloc | apply Kd.R_drewN | apply Kd.R_drew)); exact (Kd.R_mono (Kd.R_far (p := ⟨gb381, 2, none⟩) (Kd.R_far (p := ⟨gb381, 1, none⟩) (Kd.R_far (p := ⟨gb381, 0, none⟩) (Kd.R_types HO_6.out BK381.out (by decide)) (fun _ hk => hk.2) (.int .i64 ((rd_T79 x377000_2 x33_3).f0))) (fun _ hk => hk.2) (.int .i64 ((rd_T79 x377000_2 x33_3).f1))) (fun _ hk => hk.2) (.slice A380_2 ((rd_T79 x377000_2 x33_3).f2).length c380_2)) (fun _ h_ => h_.1))))) (Kd.R_lt (by (with_reducible repeat (first | apply Kd.R_alloc | apply Kd.R_drewN | apply Kd.R_drew)); exact (Kd.R_mono (Kd.R_far (p := ⟨gb381, 2, none⟩) (Kd.R_far (p := ⟨gb381, 1, none⟩) (Kd.R_far (p := ⟨gb381, 0, none⟩) (Kd.R_types HO_9.out BK381.out (by decide)) (fun _ hk => hk.2) (.int .i64 ((rd_T79 x377000_2 x33_3).f0))) (fun _ hk => hk.2) (.int .i64 ((rd_T79 x377000_2 x33_3).f1))) (fun _ hk => hk.2) (.slice A380_2 ((rd_T79 x377000_2 x33_3).f2).length c380_2)) (fun _ h_ => h_.1))))) (below_size qz1)); replace HO_6 := aM (Kd.R_elder' (by (with_reducible repeat (first | apply Kd.R_alloc | apply Kd.R_drewN | apply Kd.R_drew)); exact (Kd.R_mono (Kd.R_far (p := ⟨gb381, 2, none⟩) (Kd.R_far (p := ⟨gb381, 1, none⟩) (Kd.R_far (p := ⟨gb381, 0, none⟩) (Kd.R_types HO_6.out BK381.out (by decide)) (fun _ hk => hk.2) (.int .i64 ((rd_T79 x377000_2 x33_3).f0))) (fun _ hk => hk.2) (.int .i64 ((rd_T79 x377000_2 x33_3).f1))) (fun _ hk => hk.2) (.slice A380_2 ((rd_T79 x377000_2 x33_3).f2).length c380_2)) (fun _ h_ => h_.1))) (Kd.R_base ho0) hb); replace HO_9 := aM (Kd.R_elder' (by (with_reducible repeat (first | apply Kd.R_alloc | apply Kd.R_drewN | apply Kd.R_drew)); exact (Kd.R_mono (Kd.R_far (p := ⟨gb381, 2, none⟩) (Kd.R_far (p := ⟨gb381, 1, none⟩) (Kd.R_far (p := ⟨gb381, 0, none⟩) (Kd.R_types HO_9.out BK381.out (by decide)) (fun _ hk => hk.2) (.int .i64 ((rd_T79 x377000_2 x33_3).f0))) (fun _ hk => hk.2) (.int .i64 ((rd_T79 x377000_2 x33_3).f1))) (fun _ hk => hk.2) (.slice A380_2 ((rd_T79 x377000_2 x33_3).f2).length c380_2)) (fun _ h_ => h_.1))) (Kd.R_base ho0) hb); replace BK370 := aM (blk_below (g := gb370) (o := .cells #[.slice A0_0 l0_0.length c0_0] 26 (0, 0)) (bk2_ BK370.out) hb); replace BK376 := aM (blk_below (g := gb376) (o := .cells #[.slice (some ad380) x377000_2.length co27] 26 (0, 0)) (bk2_ BK376.out) hb); replace HR380_2 := aM (Kd.C_below ((Kd.R_reads' (by (with_reducible repeat (first | apply Kd.R_alloc | apply Kd.R_drewN | apply Kd.R_drew)); exact (Kd.R_mono (Kd.R_far (p := ⟨gb381, 2, none⟩) (Kd.R_far (p := ⟨gb381, 1, none⟩) (Kd.R_far (p := ⟨gb381, 0, none⟩) (Kd.R_types HL380_2.out BK381.out (by decide)) (fun _ hk => hk.2) (.int .i64 ((rd_T79 x377000_2 x33_3).f0))) (fun _ hk => hk.2) (.int .i64 ((rd_T79 x377000_2 x33_3).f1))) (fun _ hk => hk.2) (.slice A380_2 ((rd_T79 x377000_2 x33_3).f2).length c380_2)) (fun _ h_ => h_.1)))).2.2) hb); replace HL380_2 := aM (Kd.R_below (by (with_reducible repeat (first | apply Kd.R_alloc | apply Kd.R_drewN | apply Kd.R_drew)); exact (Kd.R_mono (Kd.R_far (p := ⟨gb381, 2, none⟩) (Kd.R_far (p := ⟨gb381, 1, none⟩) (Kd.R_far (p := ⟨gb381, 0, none⟩) (Kd.R_types HL380_2.out BK381.out (by decide)) (fun _ hk => hk.2) (.int .i64 ((rd_T79 x377000_2 x33_3).f0))) (fun _ hk => hk.2) (.int .i64 ((rd_T79 x377000_2 x33_3).f1))) (fun _ hk => hk.2) (.slice A380_2 ((rd_T79 x377000_2 x33_3).f2).length c380_2)) (fun _ h_ => h_.1))) hb); replace BK381 := aM (blk_below (g := gb381) (o := .cells #[.int .i64 ((rd_T79 x377000_2 x33_3).f0), .int .i64 ((rd_T79 x377000_2 x33_3).f1), .slice A380_2 ((rd_T79 x377000_2 x33_3).f2).length c380_2] 79 (0, 0)) (by (with_reducible repeat (first | refine blk_drewN ?_ _ | refine blk_drew ?_ | refine blk_alloc ?_ _)); refine blk_put (cs := #[.int .i64 ((rd_T79 x377000_2 x33_3).f0), .int .i64 ((rd_T79 x377000_2 x33_3).f1), .slice none 0 0]) ?_ 2 _ rfl; (with_reducible repeat (first | refine blk_drewN ?_ _ | refine blk_drew ?_ | refine blk_alloc ?_ _)); refine blk_put (cs := #[.int .i64 ((rd_T79 x377000_2 x33_3).f0), .int .i64 0, .slice none 0 0]) ?_ 1 _ rfl; (with_reducible repeat (first | refine blk_drewN ?_ _ | refine blk_drew ?_ | refine blk_alloc ?_ _)); refine blk_put (cs := #[.int .i64 0, .int .i64 0, .slice none 0 0]) ?_ 0 _ rfl; exact bk_ BK381.out) hb); replace HB := bS_ hb; (try clear hb); (try clear hb2); (try clear hk); (try clear hi); (try clear ho0)))
       go_roundg k3
       case measure => have := HJ2.out; have := HK2.out; have := HK3.out; omega
       case rel => exact ⟨(x9_3), (x10_3), (wrap64 (x33_3 + 1)), qz5, qz5, H', ⟨by have := HJ2.out; have := HK2.out; have := HK3.out; omega⟩, ⟨by (with_reducible repeat (first | apply Kd.R_alloc | apply Kd.R_drewN | apply Kd.R_drew)); exact Kd.R_mono HO_6.out (fun _ hk => hk.1)⟩, ⟨rm_ HO_8.out⟩, ⟨by (with_reducible repeat (first | apply Kd.R_alloc | apply Kd.R_drewN | apply Kd.R_drew)); exact Kd.R_mono HO_9.out (fun _ hk => hk.1)⟩, ⟨by (with_reducible repeat (first | apply Kd.S_alloc | apply Kd.S_drewN | apply Kd.S_drew)); exact Kd.S_mono HO_31.out (fun _ hk => trivial)⟩, ⟨by (with_reducible repeat (first | apply Kd.S_alloc | apply Kd.S_drewN | apply Kd.S_drew)); exact Kd.S_mono HO_377000.out (fun _ hk => trivial)⟩, ⟨bk_ BK370.out⟩, ⟨bk_ BK376.out⟩, ⟨qz1⟩⟩
       }
       }
       {
       exact an_ c30 H
       }
       }
       {
       exact an_ c29 H
       }
       }
       {
       rw [if_neg c28] at H
       have c28b0 := decide_eq_false c28
       clear c28
       by_cases c43 : x10_3 = 0
       {
       rw [if_pos c43] at H
       have c43b0 := beq_iff_eq.mpr c43
       have c43b1 := bne_eq_false_iff_eq.mpr c43
       clear c43
       simp only [Option.some.injEq, Prod.mk.injEq] at H
       obtain ⟨rfl, rfl⟩ := H
       go_wp2
       go_ret2
       exact ⟨_, qzw, by first | exact Kd.R_nil _ _ _ _ _ | exact Kd.N_nil _ _ _ _ _ | exact Kd.V_nil _ _ _ _ _ | exact Kd.Q_nil _ _ _ _ _ | exact Kd.S_nil _ _ _ _ _, qz1⟩
       }
       {
       rw [if_neg c43] at H
       have c43b0 := beq_eq_false_iff_ne.mpr c43
       have c43b1 := bne_iff_ne.mpr c43
       by_cases c44 : x6_2.length + x9_3.length < 5864062014805
       {
       rw [if_pos c44] at H
       have LMc44 := aM c44
       clear c44
       obtain ⟨y386, hy386⟩ : ∃ y_ : List (S50), y_ = (x6_2 ++ x9_3) := ⟨_, rfl⟩
       replace H : ((impl_HoldAll.f k3 x377000_2 x9_3).bind fun bt389 => ((impl_less.f k3 x8_2 x9_3).bind fun t393 => (impl_Picks.l0 k3 y386 t393 bt389.1))) = some (r1, r2) := by first | (rw [hy386]; with_reducible exact H) | (have H2_ := (Option.bind_some _ _).symm.trans H; rw [hy386]; with_reducible exact H2_) | (have H2_ := (Option.bind_some _ _).symm.trans H; with_reducible exact H2_) | with_reducible exact H | (rw [hy386]; exact H) | exact H
       have Ny386 := aM hy386
       clear hy386
       replace H := Option.bind_eq_some_iff.mp H
       obtain ⟨⟨t389, t392⟩, A450, H⟩ := H
       replace H : ((impl_less.f k3 x8_2 x9_3).bind fun t393 => (impl_Picks.l0 k3 y386 t393 t389)) = some (r1, r2) := H
       have A45 := aM A450
       clear A450
       replace H := Option.bind_eq_some_iff.mp H
       obtain ⟨t393, A460, H⟩ := H
       replace H : (impl_Picks.l0 k3 y386 t393 t389) = some (r1, r2) := H
       have A46 := aM A460
       clear A460
       have H' := aM H
       clear H
       obtain ⟨Ao48, co48, eo48⟩ := Kd.R_slice HO_9.out
       subst eo48
       go_wp2_with (first | ((with_reducible refine gate_builtin (b := .append) (xs := #[.tmp 51, .tmp 52]) rfl ?_); at_builtin; refine Kd.R_append_rows k50 (w0 := w) w.heap.size rfl (.tmp 51) (.tmp 52) 43 50 (.agg #[(.int .i64 0), (.int .i64 0), (.int .i64 0)]) 24 rfl Try.underlying43 info50 rfl (by decide) (by omega) u6 x6_2 x9_3 _ _ _ (fun k_ => some k_ ≠ (.slice Ao48 x9_3.length co48 : Value).ownBlock) (fun _ => False) rfl rfl ?aO ?aR (fun _ _ h => h) (fun _ h => h.elim) ?aF ?aB ?aS ?aL ?_; (case aR => repeat (first | exact (Kd.R_reads' HO_9.out).2.2 | (with_reducible refine Kd.C_alloc ?_ _) | (with_reducible refine Kd.C_drewN ?_ _) | (with_reducible refine Kd.C_drew ?_))); (case aB => exact qz1); (case aF => exact (fun k_ hk => Kd.fresh' (Kd.R_lt (rr_ HO_9.out)) k_ hk)); (case aO => exact (rr_ HO_6.out)); (case aS => exact (below_size qz1)); (case aL => have := LMc44.out; omega); intro v387 w47 ho hb hg hat; rw [← Ny386.out] at ho; replace HO_8 := aM (Kd.R_over' (rr_ HO_8.out) (Kd.R_typed (rr_ HO_6.out)) (by decide) hg); replace HO_9 := aM (Kd.R_after (ok := (fun _ => True)) (by (with_reducible repeat (first | apply Kd.R_alloc | apply Kd.R_drewN | apply Kd.R_drew)); exact Kd.R_mono HO_9.out (fun _ hk => ⟨trivial, hk⟩)) hg hat); replace HO_31 := aM (Kd.S_over' (rs_ HO_31.out) (Kd.R_typed (rr_ HO_6.out)) (by decide) hg); replace HO_377000 := aM (Kd.S_over' (rs_ HO_377000.out) (Kd.R_typed (rr_ HO_6.out)) (by decide) hg); replace BK370 := aM (blk_grown (bk_ BK370.out) hg (Kd.R_ne HO_6.out BK370.out (by decide))); replace BK376 := aM (blk_grown (bk_ BK376.out) hg (Kd.R_ne HO_6.out BK376.out (by decide))); replace HB := aM (hb); have HO388 := aM (ho); clear HO_6; clear ho hb hg hat; have hnb49 := NB376_370.out; have hnc49 := NB370_376.out; obtain ⟨hcz50_0, hfz50_0⟩ := bf_ BK376.out) | ((with_reducible refine gate_callee (f := 39) rfl ?_); refine goesL_ (some 57) rfl rfl Try.func39 (by kernel_rfl) rfl #[.agg #[.slice Ao27 x377000_2.length co27], .slice Ao48 x9_3.length co48] rfl qz4 ?_; (with_reducible refine (impl_HoldAll.calls k3 _ _ x377000_2 _ _ x9_3 t389 t392 _ ?side1 ?side2 ?side3 ?side4 A45.out).mono ?_); (case side1 => repeat (first | exact (Kd.S_reads' HO_377000.out).2.2 | (with_reducible refine Kd.C_alloc ?_ _) | (with_reducible refine Kd.C_drewN ?_ _) | (with_reducible refine Kd.C_drew ?_))); (case side2 => exact (Kd.S_reads' HO_377000.out).2.1); (case side3 => repeat (first | exact (Kd.R_reads' HO_9.out).2.2 | (with_reducible refine Kd.C_alloc ?_ _) | (with_reducible refine Kd.C_drewN ?_ _) | (with_reducible refine Kd.C_drew ?_))); (case side4 => exact (Kd.R_reads' HO_9.out).2.1); rintro e w51 ⟨v390, rfl, ho0, hb⟩; refine ⟨_, rfl, ?_⟩; replace HO_8 := aM (Kd.R_below (rr_ HO_8.out) hb); replace HO_9 := aM (Kd.R_below (rr_ HO_9.out) hb); replace HO388 := aM (Kd.R_below (rr_ HO388.out) hb); have HO391 := aM (Kd.S_lower (Kd.S_new' (Kd.S_new' ho0 (Kd.S_lt (rs_ HO_31.out))) (Kd.S_lt (rs_ HO_377000.out))) (below_size qz1)); replace HO_31 := aM (Kd.S_elder' (rs_ HO_31.out) (Kd.S_base ho0) hb); replace HO_377000 := aM (Kd.S_elder' (rs_ HO_377000.out) (Kd.S_base ho0) hb); replace BK370 := bB_ BK370 hb; replace BK376 := bB_ BK376 hb; replace HB := bS_ hb; (try clear hb); (try clear hb2); (try clear hk); (try clear hi); (try clear ho0); obtain ⟨Ao52, co52, eo52⟩ := Kd.S_slice HO391.out; subst eo52; obtain ⟨hcz53_0, hfz53_0⟩ := bf_ BK376.out) | ((with_reducible refine gate_callee (f := 80) rfl ?_); refine goesL_ (some 62) rfl rfl Try.func80 (by kernel_rfl) rfl #[.slice Ao24 x8_2.length co24, .slice Ao48 x9_3.length co48] rfl qz4 ?_; (with_reducible refine (impl_less.calls k3 _ _ x8_2 _ _ x9_3 t393 _ ?side1 ?side2 ?side3 ?side4 A46.out).mono ?_); (case side1 => refine (Kd.R_reads' (e := 48) (base := w.heap.size) (ok := fun k_ => True) (n := x8_2.length) (c := co24) ?_).2.2; exact (by (with_reducible repeat (first | apply Kd.R_alloc | apply Kd.R_drewN | apply Kd.R_drew)); exact (Kd.R_mono (Kd.R_far (p := ⟨gb376, 0, none⟩) (Kd.R_types HO_8.out BK376.out (by decide)) (fun _ hk => hk.2) (.slice Ao52 t389.length co52)) (fun _ h_ => h_.1)))); (case side2 => exact (Kd.R_reads' HO_8.out).2.1); (case side3 => refine (Kd.R_reads' (e := 50) (base := w.heap.size) (ok := fun k_ => (True ∧ some k_ ≠ (v387 : Value).ownBlock)) (n := x9_3.length) (c := co48) ?_).2.2; exact (by (with_reducible repeat (first | apply Kd.R_alloc | apply Kd.R_drewN | apply Kd.R_drew)); exact (Kd.R_mono (Kd.R_far (p := ⟨gb376, 0, none⟩) (Kd.R_types HO_9.out BK376.out (by decide)) (fun _ hk => hk.2) (.slice Ao52 t389.length co52)) (fun _ h_ => h_.1)))); (case side4 => exact (Kd.R_reads' HO_9.out).2.1); rintro e w54 ⟨v394, rfl, ho0, hb⟩; refine ⟨_, rfl, ?_⟩; replace HO_9 := aM (Kd.R_below (by (with_reducible repeat (first | apply Kd.R_alloc | apply Kd.R_drewN | apply Kd.R_drew)); exact (Kd.R_mono (Kd.R_far (p := ⟨gb376, 0, none⟩) (Kd.R_types HO_9.out BK376.out (by decide)) (fun _ hk => hk.2) (.slice Ao52 t389.length co52)) (fun _ h_ => h_.1))) hb); replace HO_31 := aM (Kd.S_below (by (with_reducible repeat (first | apply Kd.S_alloc | apply Kd.S_drewN | apply Kd.S_drew)); exact (Kd.S_mono (Kd.S_far (p := ⟨gb376, 0, none⟩) (Kd.S_types HO_31.out BK376.out (by decide)) (fun _ hk => hk.2) (.slice Ao52 t389.length co52)) (fun _ h_ => h_.1))) hb); replace HO_377000 := aM (Kd.S_below (by (with_reducible repeat (first | apply Kd.S_alloc | apply Kd.S_drewN | apply Kd.S_drew)); exact (Kd.S_mono (Kd.S_far (p := ⟨gb376, 0, none⟩) (Kd.S_types HO_377000.out BK376.out (by decide)) (fun _ hk => hk.2) (.slice Ao52 t389.length co52)) (fun _ h_ => h_.1))) hb); replace HO388 := aM (Kd.R_below (by (with_reducible repeat (first | apply Kd.R_alloc | apply Kd.R_drewN | apply Kd.R_drew)); exact (Kd.R_mono (Kd.R_far (p := ⟨gb376, 0, none⟩) (Kd.R_types HO388.out BK376.out (by decide)) (fun _ hk => hk.2) (.slice Ao52 t389.length co52)) (fun _ h_ => h_.1))) hb); replace HO391 := aM (Kd.S_below (by (with_reducible repeat (first | apply Kd.S_alloc | apply Kd.S_drewN | apply Kd.S_drew)); exact (Kd.S_mono (Kd.S_far (p := ⟨gb376, 0, none⟩) (Kd.S_types HO391.out BK376.out (by decide)) (fun _ hk => hk.2) (.slice Ao52 t389.length co52)) (fun _ h_ => h_.1))) hb); have HO395 := aM (Kd.R_lower (Kd.R_new' ho0 (Kd.R_lt (by (with_reducible repeat (first | apply Kd.R_alloc | apply Kd.R_drewN | apply Kd.R_drew)); exact (Kd.R_mono (Kd.R_far (p := ⟨gb376, 0, none⟩) (Kd.R_types HO_8.out BK376.out (by decide)) (fun _ hk => hk.2) (.slice Ao52 t389.length co52)) (fun _ h_ => h_.1))))) (below_size qz1)); replace HO_8 := aM (Kd.R_elder' (by (with_reducible repeat (first | apply Kd.R_alloc | apply Kd.R_drewN | apply Kd.R_drew)); exact (Kd.R_mono (Kd.R_far (p := ⟨gb376, 0, none⟩) (Kd.R_types HO_8.out BK376.out (by decide)) (fun _ hk => hk.2) (.slice Ao52 t389.length co52)) (fun _ h_ => h_.1))) (Kd.R_base ho0) hb); replace BK370 := aM (blk_below (g := gb370) (o := .cells #[.slice A0_0 l0_0.length c0_0] 26 (0, 0)) (bk2_ BK370.out) hb); replace BK376 := aM (blk_below (g := gb376) (o := .cells #[.slice Ao52 t389.length co52] 26 (0, 0)) (by (with_reducible repeat (first | refine blk_drewN ?_ _ | refine blk_drew ?_ | refine blk_alloc ?_ _)); refine blk_put (cs := #[.slice Ao27 x377000_2.length co27]) ?_ 0 _ rfl; exact bk_ BK376.out) hb); replace HB := bS_ hb; (try clear hb); (try clear hb2); (try clear hk); (try clear hi); (try clear ho0)))
       go_roundg k3
       case measure => have := HJ2.out; have := HK2.out; have := HK3.out; omega
       case rel => exact ⟨(y386), (t393), (t389), (.slice Ao52 t389.length co52), H', ⟨by have := HJ2.out; have := HK2.out; have := HK3.out; omega⟩, ⟨by (with_reducible repeat (first | apply Kd.R_alloc | apply Kd.R_drewN | apply Kd.R_drew)); exact Kd.R_mono HO388.out (fun _ hk => trivial)⟩, ⟨by (with_reducible repeat (first | apply Kd.R_alloc | apply Kd.R_drewN | apply Kd.R_drew)); exact Kd.R_mono HO395.out (fun _ hk => trivial)⟩, ⟨by (with_reducible repeat (first | apply Kd.S_alloc | apply Kd.S_drewN | apply Kd.S_drew)); exact Kd.S_mono HO391.out (fun _ hk => trivial)⟩, ⟨bk_ BK370.out⟩, ⟨bk_ BK376.out⟩, ⟨qz1⟩⟩
       }
       {
       exact an_ c44 H
       }
       }
       }
     }
     {
     rw [if_neg c23] at H
     have c23b0 := decide_eq_false c23
     have c23b1 : decide (0 < x8_2.length) = false := decide_eq_false (by omega)
     clear c23
     simp only [Option.some.injEq, Prod.mk.injEq] at H
     obtain ⟨rfl, rfl⟩ := H
     obtain ⟨Ao55, co55, eo55⟩ := Kd.R_slice HO_8.out
     subst eo55
     go_wp2
     go_ret2
     exact ⟨_, qzw, by (with_reducible repeat (first | apply Kd.R_alloc | apply Kd.R_drewN | apply Kd.R_drew)); exact HO_6.out, qz1⟩

     }
   }
/-! ### spec_l1In: function 81 -/
def spec_l1In.f (a0 : Int) (a1 : Int) (a2 : Int) : Option (Bool) := if a0 ≥ a1 then (some (decide (a0 ≤ a2))) else (some false)
set_option maxHeartbeats 8000000 in
set_option maxRecDepth 100000 in
theorem spec_l1In.calls (a0 : Int) (a1 : Int) (a2 : Int) (r : Bool) (w : World) (h : spec_l1In.f a0 a1 a2 = some r) :
  Calls Try.prog 81 #[.int .i64 a0, .int .i64 a1, .int .i64 a2] w fun e w' => e = .returned (.bool r) ∧ Drawn0 w w' := by
 have H : (if a0 ≥ a1 then (some (decide (a0 ≤ a2))) else (some false)) = some r := h
 clear h
 by_cases c4 : a0 ≥ a1
 {
 rw [if_pos c4] at H
 have c4b0 := decide_eq_true c4
 clear c4
 obtain rfl := Option.some.inj H
 simp only [Option.some.injEq, Prod.mk.injEq] at H
 obtain ⟨rfl⟩ := H
 go_enter Try.func81, Try.ntmps81
 go_wp2
 go_ret
 exact ⟨by first | rfl | (simp; done) | (simp [*]; done), by repeat (first | exact Drawn0.refl _ | apply Drawn0.step)⟩
 }
 {
 rw [if_neg c4] at H
 have c4b0 := decide_eq_false c4
 clear c4
 obtain rfl := Option.some.inj H
 simp only [Option.some.injEq, Prod.mk.injEq] at H
 obtain ⟨rfl⟩ := H
 go_enter Try.func81, Try.ntmps81
 go_wp2
 go_ret
 exact ⟨by first | rfl | (simp; done) | (simp [*]; done), by repeat (first | exact Drawn0.refl _ | apply Drawn0.step)⟩

 }
end Go.Proofs.Yteajnkondkfmgaa.PFnPicks
