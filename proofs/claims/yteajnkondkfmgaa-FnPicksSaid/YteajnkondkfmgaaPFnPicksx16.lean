-- Made by a program of this session out of the translation. Lean checks it.
import Derived.Test.YteajnkondkfmgaaPFnPicksx0
import Derived.Test.YteajnkondkfmgaaPFnPicksx2
import Derived.Test.YteajnkondkfmgaaPFnPicksx5
import Derived.Test.YteajnkondkfmgaaPFnPicksx9
import Derived.Test.YteajnkondkfmgaaPFnPicksx10
namespace Go.Proofs.Yteajnkondkfmgaa.PFnPicks
open Go.RowKit Go.Proofs.YteajnkondkfmgaaW.PrintWords Go.Proofs.YteajnkondkfmgaaW.PrintLast Go.Proofs.YteajnkondkfmgaaW.PrintMore
attribute [local go_sem] max2_int min2_int max_two min_two max_three min_three max_four min_four   -- for this text's walks alone
set_option linter.unusedVariables false
set_option linter.unusedSimpArgs false

/-! ### impl_Release: function 20 -/
def impl_Release.f (k : Nat) (l0_0 : List (S79)) (a1 : Int) (a2 : Int) (a3 : Int) : Option ((List (S79)) × Int) := (impl_in.f a3 1 1000).bind fun t421 => (if t421 = true then ((impl_held.f k l0_0 a1 a2 a3 (wrap64 (-a3))).bind fun bt422 => (some (bt422.1, bt422.2))) else ((impl_copyStock.f k l0_0).bind fun t426 => (some (t426, 1))))
theorem impl_Release.mono : ∀ a0 a1 a2 a3 k, LeO (impl_Release.f k a0 a1 a2 a3) (impl_Release.f (k + 1) a0 a1 a2 a3) := by
 intro a0 a1 a2 a3 k
 unfold impl_Release.f
 have j0 := @impl_copyStock.mono
 have j1 := @impl_held.mono
 exact qL
set_option maxHeartbeats 8000000 in
set_option maxRecDepth 100000 in
theorem impl_Release.calls (k : Nat) (A0_0 : Option Addr) (c0_0 : Nat) (l0_0 : List (S79)) (a1 : Int) (a2 : Int) (a3 : Int) (r1 : List (S79)) (r2 : Int) (w : World) (hr0_0 : Kd.C k79 w A0_0 l0_0.length l0_0) (hc0_0 : l0_0.length ≤ c0_0) (h : impl_Release.f k l0_0 a1 a2 a3 = some (r1, r2)) :
  Calls Try.prog 20 #[.agg #[.slice A0_0 l0_0.length c0_0], .int .i64 a1, .int .i64 a2, .int .i64 a3] w fun e w' => ∃ v0_ : Value, e = .returned (.tuple #[.agg #[v0_], .int .i64 r2]) ∧ Kd.S k79 79 w' w.heap.size (fun _ => True) v0_ r1 ∧ Below w.heap.size w w' := by
 have hu26 := Try.underlying26
 have HR0_0 := aM hr0_0
 have HC0_0 := aM hc0_0
 clear hr0_0 hc0_0
 have HB := aM (Below.refl w.heap.size w)
 have H : ((impl_in.f a3 1 1000).bind fun t421 => (if t421 = true then ((impl_held.f k l0_0 a1 a2 a3 (wrap64 (-a3))).bind fun bt422 => (some (bt422.1, bt422.2))) else ((impl_copyStock.f k l0_0).bind fun t426 => (some (t426, 1))))) = some (r1, r2) := h
 clear h
 replace H := Option.bind_eq_some_iff.mp H
 obtain ⟨t421, A50, H⟩ := H
 replace H : (if t421 = true then ((impl_held.f k l0_0 a1 a2 a3 (wrap64 (-a3))).bind fun bt422 => (some (bt422.1, bt422.2))) else ((impl_copyStock.f k l0_0).bind fun t426 => (some (t426, 1)))) = some (r1, r2) := H
 have A5 := aM A50
 clear A50
 by_cases c6 : t421 = true
 {
 subst c6
 rw [if_pos rfl] at H
 replace H := Option.bind_eq_some_iff.mp H
 obtain ⟨⟨t422, t425⟩, A70, H⟩ := H
 replace H : (some (t422, t425)) = some (r1, r2) := H
 have A7 := aM A70
 clear A70
 simp only [Option.some.injEq, Prod.mk.injEq] at H
 obtain ⟨rfl, rfl⟩ := H
 go_enter Try.func20, Try.ntmps20
 go_wp2_with (first | ((with_reducible refine gate_dst (N := 4) rfl ?_); refine bx_ 4 #[.slice A0_0 l0_0.length c0_0] 26 ?_; intro gb419 hg w8 hbox hb; have BK419 := aM (hbox); have GW419 := aM (bz_ w hg qz1); have GE419 := GW419; replace HB := bS_ hb; clear hb hbox hg) | ((with_reducible refine gate_dst (N := 8) rfl ?_); refine bx_ 8 #[.slice none 0 0] 26 ?_; intro gb420 hg w9 hbox hb; have BK420 := aM (hbox); have GW420 := aM (bz_ w hg qz1); have GE420 := GW420; replace HB := bS_ hb; obtain ⟨NB419_420, NB420_419⟩ := nb_ hg (bk_ BK419.out); replace BK419 := bB_ BK419 hb; clear hb hbox hg) | ((with_reducible refine gate_callee (f := 64) rfl ?_); refine goesL_ (some 11) rfl rfl Try.func64 (by kernel_rfl) rfl #[.int .i64 a3, .int .i64 1, .int .i64 1000] rfl qz4 ?_; (with_reducible refine (impl_in.calls a3 1 1000 true _ A5.out).mono ?_); rintro e w' ⟨rfl, ⟨nd, rfl⟩⟩; refine ⟨_, rfl, ?_⟩; (try (rw [drewN_self w9]; generalize hq_ : World.drewN w9 _ = w9; replace BK419 : Aside0 (w9.heap[gb419]? = some (.cells #[.slice A0_0 l0_0.length c0_0] 26 (0, 0))) := ⟨by rw [← hq_]; exact (bk_ BK419.out)⟩; replace BK420 : Aside0 (w9.heap[gb420]? = some (.cells #[.slice none 0 0] 26 (0, 0))) := ⟨by rw [← hq_]; exact (bk_ BK420.out)⟩; replace HB : Aside0 (Below w.heap.size w w9) := ⟨by rw [← hq_]; exact qz1⟩; clear hq_)); have hnb10 := NB419_420.out; have hnc10 := NB420_419.out; obtain ⟨hcz11_0, hfz11_0⟩ := bf_ BK419.out) | ((with_reducible refine gate_callee (f := 60) rfl ?_); refine goesL_ (some 21) rfl rfl Try.func60 (by kernel_rfl) rfl #[.agg #[.slice A0_0 l0_0.length c0_0], .int .i64 a1, .int .i64 a2, .int .i64 a3, .int .i64 (wrap64 (-a3))] rfl qz4 ?_; (with_reducible refine (impl_held.calls k _ _ l0_0 a1 a2 a3 (wrap64 (-a3)) t422 t425 _ ?side1 ?side2 A7.out).mono ?_); (case side1 => exact qz6); (case side2 => exact HC0_0.out); rintro e w12 ⟨v423, rfl, ho0, hb⟩; refine ⟨_, rfl, ?_⟩; have HO424 := aM (Kd.S_lower ho0 (below_size qz1)); replace BK419 := bB_ BK419 hb; replace BK420 := bB_ BK420 hb; replace HB := bS_ hb; (try clear hb); (try clear hb2); (try clear hk); (try clear hi); (try clear ho0); obtain ⟨Ao13, co13, eo13⟩ := Kd.S_slice HO424.out; subst eo13; obtain ⟨hcz14_0, hfz14_0⟩ := bf_ BK420.out))
 refine bodyPost_ret (results_ct rfl _ _ gb420 26 #[.slice Ao13 t422.length co13] (0, 0) _ rfl (by (with_reducible repeat (first | refine blk_drewN ?_ _ | refine blk_drew ?_ | refine blk_alloc ?_ _)); refine blk_put (cs := #[.slice none 0 0]) ?_ 0 _ rfl; exact bk_ BK420.out) Try.underlying26 rfl (by kernel_rfl)) rfl ?_
 exact ⟨_, qzw, by (with_reducible repeat (first | apply Kd.S_alloc | apply Kd.S_drewN | apply Kd.S_drew)); exact Kd.S_mono (Kd.S_far (p := ⟨gb420, 0, none⟩) (Kd.S_types HO424.out BK420.out (by decide)) (fun _ hk => hk.2) (.slice Ao13 t422.length co13)) (fun _ hk => trivial), qz1⟩
 }
 {
 replace c6 := Bool.eq_false_iff.mpr c6
 subst c6
 rw [if_neg (show ¬ (false = true) by decide)] at H
 replace H := Option.bind_eq_some_iff.mp H
 obtain ⟨t426, A150, H⟩ := H
 replace H : (some (t426, 1)) = some (r1, r2) := H
 have A15 := aM A150
 clear A150
 simp only [Option.some.injEq, Prod.mk.injEq] at H
 obtain ⟨rfl, rfl⟩ := H
 go_enter Try.func20, Try.ntmps20
 go_wp2_with (first | ((with_reducible refine gate_dst (N := 4) rfl ?_); refine bx_ 4 #[.slice A0_0 l0_0.length c0_0] 26 ?_; intro gb419 hg w16 hbox hb; have BK419 := aM (hbox); have GW419 := aM (bz_ w hg qz1); have GE419 := GW419; replace HB := bS_ hb; clear hb hbox hg) | ((with_reducible refine gate_dst (N := 8) rfl ?_); refine bx_ 8 #[.slice none 0 0] 26 ?_; intro gb420 hg w17 hbox hb; have BK420 := aM (hbox); have GW420 := aM (bz_ w hg qz1); have GE420 := GW420; replace HB := bS_ hb; obtain ⟨NB419_420, NB420_419⟩ := nb_ hg (bk_ BK419.out); replace BK419 := bB_ BK419 hb; clear hb hbox hg) | ((with_reducible refine gate_callee (f := 64) rfl ?_); refine goesL_ (some 11) rfl rfl Try.func64 (by kernel_rfl) rfl #[.int .i64 a3, .int .i64 1, .int .i64 1000] rfl qz4 ?_; (with_reducible refine (impl_in.calls a3 1 1000 false _ A5.out).mono ?_); rintro e w' ⟨rfl, ⟨nd, rfl⟩⟩; refine ⟨_, rfl, ?_⟩; (try (rw [drewN_self w17]; generalize hq_ : World.drewN w17 _ = w17; replace BK419 : Aside0 (w17.heap[gb419]? = some (.cells #[.slice A0_0 l0_0.length c0_0] 26 (0, 0))) := ⟨by rw [← hq_]; exact (bk_ BK419.out)⟩; replace BK420 : Aside0 (w17.heap[gb420]? = some (.cells #[.slice none 0 0] 26 (0, 0))) := ⟨by rw [← hq_]; exact (bk_ BK420.out)⟩; replace HB : Aside0 (Below w.heap.size w w17) := ⟨by rw [← hq_]; exact qz1⟩; clear hq_)); have hnb18 := NB419_420.out; have hnc18 := NB420_419.out; obtain ⟨hcz19_0, hfz19_0⟩ := bf_ BK419.out) | ((with_reducible refine gate_callee (f := 65) rfl ?_); refine goesL_ (some 14) rfl rfl Try.func65 (by kernel_rfl) rfl #[.agg #[.slice A0_0 l0_0.length c0_0]] rfl qz4 ?_; (with_reducible refine (impl_copyStock.calls k _ _ l0_0 t426 _ ?side1 ?side2 A15.out).mono ?_); (case side1 => exact qz6); (case side2 => exact HC0_0.out); rintro e w20 ⟨v427, rfl, ho0, hb⟩; refine ⟨_, rfl, ?_⟩; have HO428 := aM (Kd.S_lower ho0 (below_size qz1)); replace BK419 := bB_ BK419 hb; replace BK420 := bB_ BK420 hb; replace HB := bS_ hb; (try clear hb); (try clear hb2); (try clear hk); (try clear hi); (try clear ho0); obtain ⟨Ao21, co21, eo21⟩ := Kd.S_slice HO428.out; subst eo21; obtain ⟨hcz22_0, hfz22_0⟩ := bf_ BK420.out))
 refine bodyPost_ret (results_ct rfl _ _ gb420 26 #[.slice Ao21 t426.length co21] (0, 0) _ rfl (by (with_reducible repeat (first | refine blk_drewN ?_ _ | refine blk_drew ?_ | refine blk_alloc ?_ _)); refine blk_put (cs := #[.slice none 0 0]) ?_ 0 _ rfl; exact bk_ BK420.out) Try.underlying26 rfl (by kernel_rfl)) rfl ?_
 exact ⟨_, qzw, by (with_reducible repeat (first | apply Kd.S_alloc | apply Kd.S_drewN | apply Kd.S_drew)); exact Kd.S_mono (Kd.S_far (p := ⟨gb420, 0, none⟩) (Kd.S_types HO428.out BK420.out (by decide)) (fun _ hk => hk.2) (.slice Ao21 t426.length co21)) (fun _ hk => trivial), qz1⟩

 }
/-! ### impl_ReleaseAll: function 40, impl.each over Release: function 83 -/
def impl_eachRelease.l0 : Nat → List S79 → List S50 → Int → List S79 → Option (List S79 × Bool)
 | 0, _, _, _, _ => none
 | k + 1, s, p, i, out => if i < (p.length : Int) then (if 0 ≤ i then ((impl_Release.f k out (rd_T50 p i).f0 (rd_T50 p i).f1 (rd_T50 p i).f2).bind fun q => if q.2 = 0 then impl_eachRelease.l0 k s p (wrap64 (i + 1)) q.1 else ((impl_copyStock.f k s).bind fun c => some (c, false))) else none) else some (out, true)
def impl_eachRelease.f (k : Nat) (s : List S79) (p : List S50) : Option (List S79 × Bool) := (impl_copyStock.f k s).bind fun o => impl_eachRelease.l0 k s p 0 o
theorem impl_eachRelease.mono_l : ∀ k, (∀ y0 y1 y2 y3, LeO (impl_eachRelease.l0 k y0 y1 y2 y3) (impl_eachRelease.l0 (k + 1) y0 y1 y2 y3))
 | 0 => fun _ _ _ _ r h => by simp [impl_eachRelease.l0] at h
 | k + 1 => by
  have ih0 := impl_eachRelease.mono_l k
  intro y0 y1 y2 y3
  unfold impl_eachRelease.l0
  have j0 := @impl_Release.mono
  have j1 := @impl_copyStock.mono
  exact qL
theorem impl_eachRelease.mono : ∀ a0 a1 k, LeO (impl_eachRelease.f k a0 a1) (impl_eachRelease.f (k + 1) a0 a1) := by
 intro a0 a1 k
 unfold impl_eachRelease.f
 exact LeO.bind (impl_copyStock.mono _ _) (fun _ => impl_eachRelease.mono_l k _ _ _ _)
set_option maxHeartbeats 8000000 in
set_option maxRecDepth 100000 in
theorem impl_eachRelease.calls (k : Nat) (A0_0 : Option Addr) (c0_0 : Nat) (l0_0 : List S79) (A1 : Option Addr) (c1 : Nat) (l1 : List S50) (r1 : List S79) (r2 : Bool) (w : World) (hr0_0 : Kd.C k79 w A0_0 l0_0.length l0_0) (hc0_0 : l0_0.length ≤ c0_0) (hr1 : Kd.C k50 w A1 l1.length l1) (hc1 : l1.length ≤ c1) (h : impl_eachRelease.f k l0_0 l1 = some (r1, r2)) :
  Calls Try.prog 83 #[.agg #[.slice A0_0 l0_0.length c0_0], .slice A1 l1.length c1, .func (.func 20) #[] #[]] w fun e w' => ∃ v0_ : Value, e = .returned (.tuple #[.agg #[v0_], .bool r2]) ∧ Kd.S k79 79 w' w.heap.size (fun _ => True) v0_ r1 ∧ Below w.heap.size w w' := by
 have hu26 := Try.underlying26
 have hu24 := Try.underlying24
 have hu50 := Try.underlying50
 have hu43 := Try.underlying43
 unfold impl_eachRelease.f at h
 obtain ⟨o, ho, h⟩ := Option.bind_eq_some_iff.mp h
 have Ho := aM ho
 have H' := aM h
 have HR := aM hr0_0
 have HC := aM hc0_0
 have HP := aM hr1
 have HPC := aM hc1
 clear ho h hr0_0 hc0_0 hr1 hc1
 go_enter Try.func83, Try.ntmps83
 go_wp2_with (first
  | (go_at_call 65; refine (impl_copyStock.calls k _ _ l0_0 o _ (Kd.C_alloc (Kd.C_alloc HR.out _) _) HC.out Ho.out).mono ?_; rintro e w1 ⟨v0, rfl, hS, hb⟩; obtain ⟨Ao, co, rfl⟩ := Kd.S_slice hS; have B3 := aM (blk_below (blk_alloc (blk_new w (.cells #[.slice A0_0 l0_0.length c0_0] 26)) (.cells #[.slice none 0 0] 26)) hb); have B6 := aM (blk_below (blk_new1 w (.cells #[.slice A0_0 l0_0.length c0_0] 26) (.cells #[.slice none 0 0] 26)) hb); have HB1 := aM (below_step (below_alloc (below_alloc (Below.refl w.heap.size w) _) _) hb); have HS := aM (show Kd.S k79 79 w1 (w.heap.size + 2) (fun k => k < w1.heap.size) (.slice Ao o.length co) o by refine Kd.S_mono (Kd.S_bound (ok := fun _ => True) ?_) (fun _ hk => hk.2.2.1); rw [show w.heap.size + 2 = ((w.alloc (.cells #[.slice A0_0 l0_0.length c0_0] 26)).alloc (.cells #[.slice none 0 0] 26)).heap.size by simp]; exact hS); have L6 := aM (blk_lt B6.out); clear hb hS))
 have hS := aM (Kd.S_mono (ok' := fun k => k ≠ w1.heap.size) (Kd.S_alloc HS.out (.cells #[.slice Ao o.length co] 26)) (fun k (hk : k < w1.heap.size) => Nat.ne_of_lt hk))
 have B8 := aM (blk_new w1 (.cells #[.slice Ao o.length co] 26))
 replace B3 := aM (blk_alloc B3.out (.cells #[.slice Ao o.length co] 26))
 replace B6 := aM (blk_alloc B6.out (.cells #[.slice Ao o.length co] 26))
 have HB2 := aM (below_alloc HB1.out (.cells #[.slice Ao o.length co] 26))
 clear HS HB1
 generalize w1.alloc (.cells #[.slice Ao o.length co] 26) = w2 at hS B3 B6 B8 HB2 ⊢
 generalize hg8 : w1.heap.size = g8 at hS B8 L6 ⊢
 clear hg8
 go_loopg [17] k (fun kq v17 w' => ∃ (x17 : Int) (out : List S79) (Ao : Option Addr) (co : Nat), v17 = .int .i64 x17 ∧ Aside0 (impl_eachRelease.l0 kq l0_0 l1 x17 out = some (r1, r2)) ∧ Aside0 (kq ≤ k) ∧ Aside0 (Kd.S k79 79 w' (w.heap.size + 2) (fun k => k ≠ g8) (.slice Ao out.length co) out) ∧ Aside0 (w'.heap[w.heap.size]? = some (.cells #[.slice A0_0 l0_0.length c0_0] 26 (0, 0))) ∧ Aside0 (w'.heap[w.heap.size + 1]? = some (.cells #[.slice none 0 0] 26 (0, 0))) ∧ Aside0 (w'.heap[g8]? = some (.cells #[.slice Ao out.length co] 26 (0, 0))) ∧ Aside0 (Below w.heap.size w w'))
 case atStart => exact ⟨0, o, Ao, co, rfl, H', ⟨Nat.le_refl _⟩, hS, B3, B6, B8, HB2⟩
 case round =>
  clear H' hS B3 B6 B8 HB2
  try clear p2
  obtain ⟨x17, out, Ao, co, rfl, HA, HK1, HS, B3, B6, B8, HB⟩ := hrel
  have L6w := L6.out
  have L8 := blk_lt B8.out
  have C3 : wr.cell? ⟨w.heap.size, 0, none⟩ = some (.slice A0_0 l0_0.length c0_0) := (blk_cell B3.out 0).trans rfl
  have C6 : wr.cell? ⟨w.heap.size + 1, 0, none⟩ = some (.slice none 0 0) := (blk_cell B6.out 0).trans rfl
  have C8 : wr.cell? ⟨g8, 0, none⟩ = some (.slice Ao out.length co) := (blk_cell B8.out 0).trans rfl
  have F6 := blk_frozen B6.out 0
  have F8 := blk_frozen B8.out 0
  have L3 := blk_lt B3.out
  have L6r := blk_lt B6.out
  have N8 : w.heap.size + 1 ≠ g8 := Nat.ne_of_lt L6w
  have N8' : g8 ≠ w.heap.size + 1 := Nat.ne_of_gt L6w
  have N83 : w.heap.size ≠ g8 := by omega
  have N83' : g8 ≠ w.heap.size := by omega
  cases gk with
  | zero => exact absurd HA.out (by simp [impl_eachRelease.l0])
  | succ k1 =>
   have H := HA.out
   clear HA
   simp only [impl_eachRelease.l0] at H
   by_cases c3 : x17 < (l1.length : Int)
   {
   rw [if_pos c3] at H
   by_cases c4 : 0 ≤ x17
   {
   rw [if_pos c4] at H
   obtain ⟨⟨q1, q2⟩, hq, H⟩ := Option.bind_eq_some_iff.mp H
   have HQ := aM hq
   clear hq
   dsimp only at H
   obtain ⟨adp, ep, y0, y1, y2⟩ := at_T50 HP.out x17 c4 c3
   subst ep
   replace y0 := pw_cell_below' HB.out y0
   replace y1 := pw_cell_below' HB.out y1
   replace y2 := pw_cell_below' HB.out y2
   have c3b0 := decide_eq_true c3
   have p5 := eq_true c4
   have q5 := eq_true c3
   have HRO := aM (Kd.S_reads' (Kd.S_alloc HS.out (.cells #[.int .i64 (rd_T50 l1 x17).f0, .int .i64 (rd_T50 l1 x17).f1, .int .i64 (rd_T50 l1 x17).f2] 50)))
   by_cases cq : q2 = 0
   {
   subst cq
   rw [if_pos rfl] at H
   have H' := aM H
   clear H
   go_wp2_with (first
    | (go_at_call 20; refine (impl_Release.calls k1 _ _ out (rd_T50 l1 x17).f0 (rd_T50 l1 x17).f1 (rd_T50 l1 x17).f2 q1 0 _ HRO.out.2.2 HRO.out.2.1 HQ.out).mono ?_; rintro e w4 ⟨v0, rfl, hS, hb⟩; obtain ⟨An, cn, rfl⟩ := Kd.S_slice hS; have hU := below_step (below_alloc (Below.refl wr.heap.size wr) _) hb; replace B3 := aM (blk_below B3.out hU); replace B6 := aM (blk_below B6.out hU); replace B8 := aM (blk_below B8.out hU); replace HB := aM (below_step HB.out hU); have HS4 := aM (show Kd.S k79 79 w4 (w.heap.size + 2) (fun k => k ≠ g8) (.slice An q1.length cn) q1 from Kd.S_lower (Kd.S_mono (Kd.S_bound hS) (fun k hk => by have h2 := hk.2.1; rw [World.size_alloc] at h2; have h3 := L8; omega)) (by rw [World.size_alloc]; have h3 := L6r; omega)); replace C8 : w4.cell? ⟨g8, 0, none⟩ = some (.slice Ao out.length co) := (blk_cell B8.out 0).trans rfl; replace F8 := blk_frozen B8.out 0; have L84 := blk_lt B8.out; have N84 := Nat.ne_of_lt L84; have N84' := Nat.ne_of_gt L84; clear HS HRO hS hb hU C3 C6 F6 L8 y0 y1 y2 L3 L6r))
   go_roundg k1
   case measure => have := HK1.out; omega
   case rel => exact ⟨wrap64 (x17 + 1), q1, An, cn, rfl, H', ⟨by have := HK1.out; omega⟩, ⟨Kd.S_alloc (Kd.S_far (p := ⟨g8, 0, none⟩) HS4.out (fun _ hk => hk) _) _⟩, ⟨blk_alloc (blk_far B3.out N83 _) _⟩, ⟨blk_alloc (blk_far B6.out N8 _) _⟩, ⟨blk_alloc (blk_put (cs := #[.slice Ao out.length co]) B8.out 0 _ rfl) _⟩, ⟨below_alloc (below_set HB.out (by omega)) _⟩⟩
   }
   {
   rw [if_neg cq] at H
   obtain ⟨cc, hcc, H⟩ := Option.bind_eq_some_iff.mp H
   have HCC := aM hcc
   obtain ⟨rfl, rfl⟩ : cc = r1 ∧ false = r2 := by simpa using H
   clear hcc H
   have cqb : (q2 != 0) = true := by simpa using cq
   clear cq
   go_wp2_with (first
    | (go_at_call 20; refine (impl_Release.calls k1 _ _ out (rd_T50 l1 x17).f0 (rd_T50 l1 x17).f1 (rd_T50 l1 x17).f2 q1 q2 _ HRO.out.2.2 HRO.out.2.1 HQ.out).mono ?_; rintro e w4 ⟨v0, rfl, hS, hb⟩; obtain ⟨An, cn, rfl⟩ := Kd.S_slice hS; have hU := below_step (below_alloc (Below.refl wr.heap.size wr) _) hb; replace B3 := aM (blk_below B3.out hU); replace B6 := aM (blk_below B6.out hU); replace HB := aM (below_step HB.out hU); have C3' : w4.cell? ⟨w.heap.size, 0, none⟩ = some (.slice A0_0 l0_0.length c0_0) := (blk_cell B3.out 0).trans rfl; have L3' := blk_lt B3.out; clear HS HRO hS hb hU C3 C6 C8 F6 F8 L8 L3 L6r B8 y0 y1 y2)
    | (go_at_call 65; refine (impl_copyStock.calls k1 _ _ l0_0 cc _ (Kd.C_below HR.out (below_alloc HB.out _)) HC.out HCC.out).mono ?_; rintro e w5 ⟨v0, rfl, hS, hb⟩; obtain ⟨Ac, cc5, rfl⟩ := Kd.S_slice hS; have hU := below_step (below_alloc (Below.refl w4.heap.size w4) _) hb; have L6q := blk_lt B6.out; replace B6 := aM (blk_below B6.out hU); replace HB := aM (below_step HB.out hU); have HS5 := aM (show Kd.S k79 79 w5 (w.heap.size + 2) (fun k => True) (.slice Ac cc.length cc5) cc from Kd.S_lower hS (by rw [World.size_alloc]; omega)); have C6' : w5.cell? ⟨w.heap.size + 1, 0, none⟩ = some (.slice none 0 0) := (blk_cell B6.out 0).trans rfl; have F6' := blk_frozen B6.out 0; clear hS hb hU C3' L3'))
   refine bodyPost_ret (results_ct rfl _ _ (w.heap.size + 1) 26 #[.slice Ac cc.length cc5] (0, 0) _ rfl (blk_put (cs := #[.slice none 0 0]) B6.out 0 _ rfl) Try.underlying26 rfl (by kernel_rfl)) rfl ?_
   exact ⟨_, rfl, Kd.S_lower (S_box HS5.out (show w.heap.size + 1 < w.heap.size + 2 by omega) _) (by omega), below_set HB.out (by omega)⟩
   }
   }
   {
   exact an_ c4 H
   }
   }
   {
   rw [if_neg c3] at H
   have c3b0 := decide_eq_false c3
   clear c3
   obtain ⟨rfl, rfl⟩ : out = r1 ∧ true = r2 := by simpa using H
   clear H
   go_wp2
   refine bodyPost_ret (results_ct rfl _ _ (w.heap.size + 1) 26 #[.slice Ao out.length co] (0, 0) _ rfl (blk_put (cs := #[.slice none 0 0]) B6.out 0 _ rfl) Try.underlying26 rfl (by kernel_rfl)) rfl ?_
   exact ⟨_, rfl, Kd.S_mono (ok' := fun _ => True) (Kd.S_lower (S_box HS.out (show w.heap.size + 1 < w.heap.size + 2 by omega) _) (by omega)) (fun _ _ => trivial), below_set HB.out (by omega)⟩
   }
def impl_ReleaseAll.f (k : Nat) (s : List S79) (p : List S50) : Option (List S79 × Bool) := impl_eachRelease.f k s p
theorem impl_ReleaseAll.mono : ∀ a0 a1 k, LeO (impl_ReleaseAll.f k a0 a1) (impl_ReleaseAll.f (k + 1) a0 a1) := impl_eachRelease.mono
set_option maxHeartbeats 8000000 in
set_option maxRecDepth 100000 in
theorem impl_ReleaseAll.calls (k : Nat) (A0_0 : Option Addr) (c0_0 : Nat) (l0_0 : List S79) (A1 : Option Addr) (c1 : Nat) (l1 : List S50) (r1 : List S79) (r2 : Bool) (w : World) (hr0_0 : Kd.C k79 w A0_0 l0_0.length l0_0) (hc0_0 : l0_0.length ≤ c0_0) (hr1 : Kd.C k50 w A1 l1.length l1) (hc1 : l1.length ≤ c1) (h : impl_ReleaseAll.f k l0_0 l1 = some (r1, r2)) :
  Calls Try.prog 40 #[.agg #[.slice A0_0 l0_0.length c0_0], .slice A1 l1.length c1] w fun e w' => ∃ v0_ : Value, e = .returned (.tuple #[.agg #[v0_], .bool r2]) ∧ Kd.S k79 79 w' w.heap.size (fun _ => True) v0_ r1 ∧ Below w.heap.size w w' := by
 have hu26 := Try.underlying26
 have H := aM h
 have HR := aM hr0_0
 have HC := aM hc0_0
 have HP := aM hr1
 have HPC := aM hc1
 clear h hr0_0 hc0_0 hr1 hc1
 go_enter Try.func40, Try.ntmps40
 go_wp2_with (first
  | (go_at_call 83; refine (impl_eachRelease.calls k _ _ l0_0 _ _ l1 r1 r2 _ (Kd.C_alloc (Kd.C_alloc HR.out _) _) HC.out (Kd.C_alloc (Kd.C_alloc HP.out _) _) HPC.out H.out).mono ?_; rintro e w1 ⟨v0, rfl, hS, hb⟩; obtain ⟨Ao, co, rfl⟩ := Kd.S_slice hS; have B4 := aM (blk_below (blk_new1 w (.cells #[.slice A0_0 l0_0.length c0_0] 26) (.cells #[.slice none 0 0] 26)) hb); have HB := aM (below_step (below_alloc (below_alloc (Below.refl w.heap.size w) _) _) hb); have HS := aM (show Kd.S k79 79 w1 (w.heap.size + 2) (fun _ => True) (.slice Ao r1.length co) r1 by rw [show w.heap.size + 2 = ((w.alloc (.cells #[.slice A0_0 l0_0.length c0_0] 26)).alloc (.cells #[.slice none 0 0] 26)).heap.size by simp]; exact hS); have C4 : w1.cell? ⟨w.heap.size + 1, 0, none⟩ = some (.slice none 0 0) := (blk_cell B4.out 0).trans rfl; have F4 := blk_frozen B4.out 0; clear hb hS))
 refine bodyPost_ret (results_ct rfl _ _ (w.heap.size + 1) 26 #[.slice Ao r1.length co] (0, 0) _ rfl (blk_put (cs := #[.slice none 0 0]) B4.out 0 _ rfl) Try.underlying26 rfl (by kernel_rfl)) rfl ?_
 exact ⟨_, rfl, Kd.S_lower (S_box HS.out (show w.heap.size + 1 < w.heap.size + 2 by omega) _) (by omega), below_set HB.out (by omega)⟩

/-! ### impl_TakeOut: function 27 -/
def impl_TakeOut.g (o : List S79) (i j a3 : Int) : Option (List S79 × Int) :=
 if wrap64 ((rd_T72 (rd_T79 o i).f2 j).f1 - a3) = 0 then (if 0 ≤ wrap64 (j + 1) then (if wrap64 (j + 1) ≤ ((rd_T79 o i).f2.length : Int) then (if (rd_T79 o i).f2.length ≤ 1000000 then
  some (o.set i.toNat ⟨(rd_T79 o i).f0, (rd_T79 o i).f1, ([] ++ ((rd_T79 o i).f2.set j.toNat ⟨(rd_T72 (rd_T79 o i).f2 j).f0, 0, (rd_T72 (rd_T79 o i).f2 j).f2⟩).take j.toNat) ++ ((rd_T79 o i).f2.set j.toNat ⟨(rd_T72 (rd_T79 o i).f2 j).f0, 0, (rd_T72 (rd_T79 o i).f2 j).f2⟩).drop (wrap64 (j + 1)).toNat⟩, 0) else none) else none) else none)
 else some (o.set i.toNat ⟨(rd_T79 o i).f0, (rd_T79 o i).f1, ((rd_T79 o i).f2.set j.toNat ⟨(rd_T72 (rd_T79 o i).f2 j).f0, wrap64 ((rd_T72 (rd_T79 o i).f2 j).f1 - a3), (rd_T72 (rd_T79 o i).f2 j).f2⟩)⟩, 0)
def impl_TakeOut.f (k : Nat) (l : List S79) (a1 a2 a3 : Int) : Option (List S79 × Int) :=
 (impl_Release.f k l a1 a2 a3).bind fun q => if q.2 = 0 then (impl_podAt.f k q.1 a1).bind fun i => (if 0 ≤ i then (if i < (q.1.length : Int) then
  (impl_stackAt.f k (rd_T79 q.1 i).f0 (rd_T79 q.1 i).f1 (rd_T79 q.1 i).f2 a2).bind fun s =>
   if 0 ≤ s.1 then (if s.1 < ((rd_T79 q.1 i).f2.length : Int) then impl_TakeOut.g q.1 i s.1 a3 else none) else none
  else none) else none) else some (q.1, q.2)
theorem impl_TakeOut.mono : ∀ l a1 a2 a3 k, LeO (impl_TakeOut.f k l a1 a2 a3) (impl_TakeOut.f (k + 1) l a1 a2 a3) := by
 intro l a1 a2 a3 k
 unfold impl_TakeOut.f
 have j0 := @impl_copyStock.mono
 have j1 := @impl_place.mono
 have j2 := @impl_stackAt.mono
 have j3 := @impl_Release.mono
 have j4 := @impl_podAt.mono
 exact qL
def impl_TakeOut.T4 : Bool × List (List Nat × List Nat) := (true, [([], []), ([0], [0]), ([], []), ([], []), ([2, 3], [2, 3]), ([1, 4], [1, 4]), ([5, 4, 0, 1, 2, 3, 4, 5], [5])])
def impl_TakeOut.B4 : List Nat := [0, 1, 0, 0, 12, 31, 63]
theorem impl_TakeOut.tab4 : rtab .any (opsOf Try.f27 4) = impl_TakeOut.T4 := by kernel_rfl
theorem impl_TakeOut.bits4 : waitsOk impl_TakeOut.T4.2 impl_TakeOut.B4 = true := by kernel_rfl
def impl_TakeOut.T8 : Bool × List (List Nat × List Nat) := (true, [([], []), ([], []), ([1], [1]), ([2], [2]), ([3], [3]), ([], []), ([4, 5], [4, 5]), ([6], [6]), ([], []), ([8], [8]), ([9], [9]), ([10], [10]), ([], []), ([12], [12]), ([11, 13], [11, 13]), ([7, 14, 7], [7, 14]), ([0, 0, 1, 2, 3, 4, 5, 6, 7, 8, 9, 10, 11, 12, 13, 14, 15], [0]), ([16, 0, 1, 2, 3, 4, 5, 6, 7, 8, 9, 10, 11, 12, 13, 14, 15], [16]), ([17, 15, 15, 0, 1, 2, 3, 4, 5, 6, 7, 8, 9, 10, 11, 12, 13, 14, 15], [15, 17])])
def impl_TakeOut.B8 : List Nat := [0, 0, 2, 6, 14, 0, 62, 126, 0, 256, 768, 1792, 0, 4096, 16128, 32766, 65535, 131071, 262143]
theorem impl_TakeOut.tab8 : rtab .any (opsOf Try.f27 8) = impl_TakeOut.T8 := by kernel_rfl
theorem impl_TakeOut.bits8 : waitsOk impl_TakeOut.T8.2 impl_TakeOut.B8 = true := by kernel_rfl
set_option maxHeartbeats 8000000 in
set_option maxRecDepth 100000 in
theorem impl_TakeOut.calls (k : Nat) (A0 : Option Addr) (c0 : Nat) (l : List S79) (a1 a2 a3 : Int) (r1 : List S79) (r2 : Int) (w : World) (hr0 : Kd.C k79 w A0 l.length l) (hc0 : l.length ≤ c0) (h : impl_TakeOut.f k l a1 a2 a3 = some (r1, r2)) :
  Calls Try.prog 27 #[.agg #[.slice A0 l.length c0], .int .i64 a1, .int .i64 a2, .int .i64 a3] w fun e w' => ∃ v0_ : Value, e = .returned (.tuple #[.agg #[v0_], .int .i64 r2]) ∧ Kd.S k79 79 w' w.heap.size (fun _ => True) v0_ r1 ∧ Below w.heap.size w w' := by
 have hu26 := Try.underlying26
 have hu79 := Try.underlying79
 have hu72 := Try.underlying72
 have hu24 := Try.underlying24
 have hu77 := Try.underlying77
 unfold impl_TakeOut.f at h
 obtain ⟨⟨o, code⟩, ho, h⟩ := Option.bind_eq_some_iff.mp h
 have Ho := aM ho
 have HR := aM hr0
 have HC := aM hc0
 clear ho hr0 hc0
 dsimp only at h
 by_cases c1 : code = 0
 {
 subst c1
 rw [if_pos rfl] at h
 obtain ⟨i, hi, h⟩ := Option.bind_eq_some_iff.mp h
 have Hi := aM hi
 clear hi
 by_cases ci0 : 0 ≤ i
 {
 rw [if_pos ci0] at h
 by_cases ci1 : i < (o.length : Int)
 {
 rw [if_pos ci1] at h
 obtain ⟨⟨j, ok⟩, hs, h⟩ := Option.bind_eq_some_iff.mp h
 have Hs := aM hs
 clear hs
 dsimp only at h
 by_cases cj0 : 0 ≤ j
 {
 rw [if_pos cj0] at h
 by_cases cj1 : j < ((rd_T79 o i).f2.length : Int)
 {
 rw [if_pos cj1] at h
 have H := aM h
 clear h
 by_cases c4 : wrap64 ((rd_T72 (rd_T79 o i).f2 j).f1 - a3) = 0
 {
 have c4b : (wrap64 ((rd_T72 (rd_T79 o i).f2 j).f1 - a3) == 0) = true := by simpa using c4
 unfold impl_TakeOut.g at H
 have h := H.out
 rw [if_pos c4] at h
 clear H
 have H := aM h
 clear h
 have cw0 : 0 ≤ wrap64 (j + 1) := Decidable.byContradiction fun hn => by have h := H.out; rw [if_neg hn] at h; cases h
 have cw1 : wrap64 (j + 1) ≤ ((rd_T79 o i).f2.length : Int) := Decidable.byContradiction fun hn => by have h := H.out; rw [if_pos cw0, if_neg hn] at h; cases h
 have cw2 : (rd_T79 o i).f2.length ≤ 1000000 := Decidable.byContradiction fun hn => by have h := H.out; rw [if_pos cw0, if_pos cw1, if_neg hn] at h; cases h
 have h := H.out
 rw [if_pos cw0, if_pos cw1, if_pos cw2] at h
 clear H
 have H := aM h
 clear h
 go_enter Try.func27, Try.ntmps27
 go_wp2_with (first
  | (go_at_call 20; refine (impl_Release.calls k A0 c0 l a1 a2 a3 o 0 _ (Kd.C_alloc (Kd.C_alloc HR.out _) _) HC.out Ho.out).mono ?_; rintro e w1 ⟨v0, rfl, hS, hb⟩; obtain ⟨Ao, co, rfl⟩ := Kd.S_slice hS; have B10 := aM (blk_below (blk_new1 w (.cells #[.slice A0 l.length c0] 26) (.cells #[.slice none 0 0] 26)) hb); have HB1 := aM (below_step (below_alloc (below_alloc (Below.refl w.heap.size w) _) _) hb); have HS := aM (show Kd.S k79 79 w1 (w.heap.size + 2) (fun k => k < w1.heap.size) (.slice Ao o.length co) o by refine Kd.S_mono (Kd.S_bound (ok := fun _ => True) ?_) (fun _ hk => hk.2.2.1); rw [show w.heap.size + 2 = ((w.alloc (.cells #[.slice A0 l.length c0] 26)).alloc (.cells #[.slice none 0 0] 26)).heap.size by simp]; exact hS); have HGW := aM (Kd.S_lt hS); have C10 : w1.cell? ⟨w.heap.size + 1, 0, none⟩ = some (.slice none 0 0) := (blk_cell B10.out 0).trans rfl; have F10 := blk_frozen B10.out 0; have L10 := blk_lt B10.out; have N10 := Nat.ne_of_lt L10; clear hb hS))
 have B12 := blk_new w1 (.cells #[.slice Ao o.length co] 26)
 replace B10 := blk_alloc B10.out (.cells #[.slice Ao o.length co] 26)
 replace HS := Kd.S_alloc HS.out (.cells #[.slice Ao o.length co] 26)
 have HB2 := below_alloc HB1.out (.cells #[.slice Ao o.length co] 26)
 clear C10 F10 HB1
 generalize w1.alloc (.cells #[.slice Ao o.length co] 26) = w2 at B12 B10 HS HB2 ⊢
 obtain ⟨g, oki, A2, c2, e, hgb, hgl, x0, x1, x2, f0, f1, f2, hR2, hoki, hn, hH⟩ := S79_at HS i ci0 ci1
 cases e
 clear hoki hH f0 f1 f2
 have C12 : w2.cell? ⟨w1.heap.size, 0, none⟩ = some (.slice (some ⟨g, 0, none⟩) o.length co) := (blk_cell B12 0).trans rfl
 have p8 := eq_true ci0
 have q8 := eq_true ci1
 refine start_ (n := 7) (S := fun w' => w'.cell? ⟨w1.heap.size, 0, none⟩ = some (.slice (some ⟨g, 0, none⟩) o.length co)) (ds := []) #[false, false, false, false, false, false, false] (by kernel_rfl) rfl rfl C12 (fun hHeld => ?_); refine with_tabW impl_TakeOut.tab4 impl_TakeOut.bits4 (fun HT_ HW_ => ?_)
 refine pI_ 0 27 #[true, false, false, false, false, false, false] ?_
 refine pI_ 3 30 #[true, false, false, true, false, false, false] ?_
 refine tI1_ 1 28 #[true, true, false, true, false, false, false] ?_
 refine tI1_ 2 29 #[true, true, true, true, false, false, false] ?_
 refine one_ (i := 4) (N := some 31) #[true, true, true, true, true, false, false] rfl rfl qzc (by decide) (fun K hK => ?_)
 refine goes_ Try.func69 (by kernel_rfl) rfl #[.agg #[.slice (some ⟨g, 0, none⟩) o.length co], .int .i64 a1] (by rfl) rfl rfl qz34 ?_
 refine (impl_podAt.calls k _ _ o a1 i _ (Kd.S_reads' (Kd.S_drew HS)).2.2 (Kd.S_reads' (Kd.S_drew HS)).2.1 Hi.out).mono ?_
 rintro e w3 ⟨rfl, hb⟩
 refine ⟨_, rfl, ?_⟩
 refine hK.out _ _ (pw_cell_below hb hHeld) (fun hHeld => ?_)
 clear hK K
 refine nm_ 31 ?_
 refine pI_ 5 32 #[true, true, true, true, true, true, false] ?_
 refine pI_ 6 12 #[true, true, true, true, true, true, true] ?_
 refine done_ (done_of HT_.out (by kernel_rfl)) ?_
 clear hHeld HT_ HW_
 have hbz : Below w2.heap.size w2 w3 := below_then (below_drew (Below.refl _ _)) (Nat.le_refl _) hb
 clear hb
 replace C12 := pw_cell_below hbz C12
 replace B10 := blk_below B10 hbz
 replace HS := aM (Kd.S_below HS hbz)
 replace hR2 := aM (Kd.R_below hR2 hbz)
 have HR2 := aM (Kd.R_reads' hR2.out)
 replace x0 := pw_cell_below hbz x0
 replace x1 := pw_cell_below hbz x1
 replace x2 := pw_cell_below hbz x2
 replace HB2 := below_step HB2 hbz
 replace hgl := Nat.lt_of_lt_of_le hgl (below_size hbz)
 clear hbz
 go_wp2_with (first
  | (go_at_call 67; refine (impl_stackAt.calls k (rd_T79 o i).f0 (rd_T79 o i).f1 A2 c2 (rd_T79 o i).f2 a2 j ok _ HR2.out.2.2 HR2.out.2.1 Hs.out).mono ?_; rintro e w4 ⟨rfl, hb⟩; replace C12 := pw_cell_below hb C12; replace B10 := blk_below B10 hb; replace HS := aM (Kd.S_below HS.out hb); have hR4 := Kd.R_below hR2.out hb; clear HR2 hR2; replace x0 := pw_cell_below hb x0; replace x1 := pw_cell_below hb x1; replace x2 := pw_cell_below hb x2; replace HB2 := below_step HB2 hb; replace hgl := Nat.lt_of_lt_of_le hgl (below_size hb); obtain ⟨g2, e, hgb2, hgl2, hok2, hn2, y0, y1, y2, z0, z1, z2, hput1, hput2⟩ := R72_at hR4 j cj0 cj1; cases e; clear hput1 hput2 hok2 hR4; have HP := aM (S79_put HS.out i j ci0 ci1 cj0 cj1 (c2 := c2) (g2 := g2) x2 (0)); have hg1 := HP.out.2.2.1; have HK2 := aM HP.out.2.2.2.1; have hg3 := HP.out.2.2.2.2.1; have n1 := Nat.ne_of_gt (Nat.lt_of_lt_of_le (Nat.lt_succ_self (w.heap.size + 1)) hgb2); have n2 := Nat.ne_of_lt (Nat.lt_of_lt_of_le (Nat.lt_succ_self (w.heap.size + 1)) hgb2); have n3 := HGW.out g rfl; have n4 := Nat.ne_of_lt n3; have n5 := Nat.ne_of_gt n3; have B12 := HGW.out g rfl; have F10 := blk_frozen B10 0; have C10 : w4.cell? ⟨w.heap.size + 1, 0, none⟩ = some (.slice none 0 0) := (blk_cell B10 0).trans rfl; have hg4 := Ne.symm hg3; clear hb))
 have hP := HP.out.1
 clear HP
 replace B10 := blk_grown B10 hP.2 (fun e_ => n2 (by injection e_))
 replace C12 := (cell_far (W := w4) (p := ⟨g2, j.toNat * 3 + 1, none⟩) (show w1.heap.size ≠ g2 by exact Nat.ne_of_gt HK2.out) (.int .i64 (0))).trans C12
 replace x2 := (cell_far (W := w4) (p := ⟨g2, j.toNat * 3 + 1, none⟩) (show g ≠ g2 from hg4) (.int .i64 (0))).trans x2
 replace HB2 := below_set (j := j.toNat * 3 + 1) (v := .int .i64 (0)) HB2 (show w.heap.size ≤ g2 by omega)
 replace hgl : g < (w4.setCell ⟨g2, j.toNat * 3 + 1, none⟩ (.int .i64 (0))).heap.size := Nat.lt_of_lt_of_le hgl hP.2.size
 clear C10 F10 y0 y1 y2 z0 z1 z2 x0 x1
 generalize w4.setCell ⟨g2, j.toNat * 3 + 1, none⟩ (.int .i64 (0)) = w5 at hP B10 C12 x2 HB2 hgl ⊢
 obtain ⟨g', oki', A2', c2', e', -, -, -, -, x2', -, -, -, hR', -, -, -⟩ := S79_at hP.1 i ci0 (by rw [List.length_set]; exact ci1)
 injection e' with e'; injection e' with e'; subst e'
 rw [rd79_set ci1 ci0] at x2' hR'
 dsimp only at x2' hR'
 have e2 := Option.some.inj (x2.symm.trans x2')
 injection e2 with e3 e5 e4
 clear e5
 subst e3; subst e4
 have hC := Kd.R_reads' hR'
 clear hR' x2'
 have el : ((rd_T79 o i).f2.set j.toNat ⟨(rd_T72 (rd_T79 o i).f2 j).f0, 0, (rd_T72 (rd_T79 o i).f2 j).f2⟩).length = (rd_T79 o i).f2.length := List.length_set
 have hCA := Kd.C_drew (Kd.C_take hC.2.2 (m := j.toNat) (by rw [el]; omega))
 have hCB := Kd.C_drew (Kd.C_drop hC.2.2 (m := (wrap64 (j + 1)).toNat) (by rw [el]; omega) hC.2.1)
 rw [List.length_take, el, show min j.toNat (rd_T79 o i).f2.length = j.toNat by omega] at hCA
 rw [List.length_drop, el] at hCB
 have hc2 := hC.2.1
 rw [el] at hc2
 obtain ⟨A2, hA2⟩ : ∃ A2 : Option Addr, A2 = some ⟨g2, 0, none⟩ := ⟨_, rfl⟩
 rw [← hA2] at x2 hCA hCB
 clear hA2
 obtain ⟨ti, hti, htz⟩ := Option.map_eq_some_iff.1 info72
 simp only [Prod.mk.injEq] at htz
 have hcut1 := cut_to (P := Try.prog) 77 72 .i64 Try.underlying77 hti A2 (rd_T79 o i).f2.length c2 j cj0 (by omega) hc2
 have hcut2 := cut_from (P := Try.prog) 77 72 .i64 Try.underlying77 hti 3 htz.2.1 A2 (rd_T79 o i).f2.length c2 (wrap64 (j + 1)) cw0 cw1
 have HSB := aM (Kd.S_drew (Kd.S_mono (Kd.S_bound hP.1) (ok' := fun k => k < w5.heap.size) (fun k hk => hk.2.2.1)))
 refine start_ (n := 19) (S := fun w' => w'.cell? ⟨g, i.toNat * 3 + 2, none⟩ = some (.slice A2 (rd_T79 o i).f2.length c2)) (ds := [18]) #[false, false, false, false, false, false, false, false, false, false, false, false, false, false, false, false, false, false, false] (by kernel_rfl) rfl rfl x2 (fun hHeld => ?_); refine with_tabW impl_TakeOut.tab8 impl_TakeOut.bits8 (fun HT_ HW_ => ?_)
 refine pI_ 0 62 (bqz 19 1) ?_
 refine jI_ 1 63 ?_
 refine jI_ 2 64 ?_
 refine jI_ 3 65 ?_
 refine jI_ 5 67 ?_
 refine jI_ 8 70 ?_
 refine jI_ 9 71 ?_
 refine jI_ 10 72 ?_
 refine jI_ 12 74 ?_
 refine jI_ 13 75 ?_
 refine sI1_ 4 66 ?_
 refine jI_ 6 68 ?_
 refine sI1_ 11 73 ?_
 refine jI_ 14 76 ?_
 have hH0 := hHeld
 refine one_ (i := 7) (N := some 69) (bqz 19 32767) rfl rfl qzc (by decide) (fun K hK => ?_)
 refine Kd.R_append_rows_step k72 (w0 := w5.drew) w5.drew.heap.size rfl (.const (.slice none 0 0)) (.tmp 68) 77 72 (.agg #[(.int .i64 0), (.int .i64 0), (.int .i64 0)]) 24 rfl Try.underlying77 info72 rfl (by decide) (by omega) (.slice none 0 0) ([] : List S72) (((rd_T79 o i).f2.set j.toNat ⟨(rd_T72 (rd_T79 o i).f2 j).f0, 0, (rd_T72 (rd_T79 o i).f2 j).f2⟩).take j.toNat) A2 j.toNat c2 (fun _ => True) (fun _ => False) (by rfl) (by rfl) (Kd.R_nil _ _ _ _ _) hCA (fun _ _ h => h) (fun _ h => h.elim) (fun _ _ => trivial) (Below.refl _ _) (Nat.le_refl _) (by simp only [List.length_nil]; omega) ?_
 intro v6 w6 ho6 hb6 hg6 hat6
 refine hK.out _ _ (pw_cell_below hb6 hH0) (fun hHeld => ?_)
 clear hK K
 refine nm_ 69 ?_
 refine one_ (i := 15) (N := some 77) (bqz 19 65535) rfl rfl qzc (by decide) (fun K hK => ?_)
 refine Kd.R_append_rows_step k72 (w0 := w5.drew) w5.drew.heap.size rfl (.tmp 69) (.tmp 76) 77 72 (.agg #[(.int .i64 0), (.int .i64 0), (.int .i64 0)]) 24 rfl Try.underlying77 info72 rfl (by decide) (by omega) v6 ([] ++ (((rd_T79 o i).f2.set j.toNat ⟨(rd_T72 (rd_T79 o i).f2 j).f0, 0, (rd_T72 (rd_T79 o i).f2 j).f2⟩).take j.toNat)) (((rd_T79 o i).f2.set j.toNat ⟨(rd_T72 (rd_T79 o i).f2 j).f0, 0, (rd_T72 (rd_T79 o i).f2 j).f2⟩).drop (wrap64 (j + 1)).toNat) (if c2 = (wrap64 (j + 1)).toNat then A2 else A2.map (·.add ((wrap64 (j + 1)).toNat * 3))) ((rd_T79 o i).f2.length - (wrap64 (j + 1)).toNat) (c2 - (wrap64 (j + 1)).toNat) (fun _ => True) (fun _ => False) (by rfl) (by rfl) ho6 (Kd.C_below hCB hb6) (fun _ _ h => h) (fun _ h => h.elim) (fun _ _ => trivial) hb6 (below_size hb6) (by simp only [List.nil_append, List.length_take, el]; omega) ?_
 intro v8 w8 ho8 hb8 hg8 hat8
 obtain ⟨A8, c8, rfl⟩ := Kd.R_slice ho8
 refine hK.out _ _ (pw_cell_below hb8 hH0) (fun hHeld => ?_)
 clear hK K
 refine nm_ 77 ?_
 refine jI_ 16 78 ?_
 refine jI_ 17 79 ?_
 have hS8 := Kd.S_below HSB.out hb8
 obtain ⟨g', oki', A2', c2', e', hgb', hgl', q0, q1, q2, f0, f1, f2, -, -, -, -⟩ := S79_at hS8 i ci0 (by rw [List.length_set]; exact ci1)
 injection e' with e'; injection e' with e'; subst e'
 clear q0 q1 f0 f1
 refine last_ (i := 18) (N := none) (bqz 19 524287) rfl rfl qzc (by decide) (fun K hK => ?_)
 refine sk_ ?_
 refine hK.out _ _ ?_
 clear hK K
 refine done_ (done_of HT_.out (by kernel_rfl)) ?_
 clear hcut1 hcut2 hCA hCB el
 have hP2 := S79_row hS8 (fun k hk hlt => Nat.lt_irrefl _ (Nat.lt_of_lt_of_le hlt hk)) ho8 (show w.heap.size + 2 ≤ w5.heap.size by omega) i ci0 (by rw [List.length_set]; exact ci1) hgl
 rw [rd79_set ci1 ci0, List.set_set] at hP2
 dsimp only at hP2
 have hlen : (([] ++ (((rd_T79 o i).f2.set j.toNat ⟨(rd_T72 (rd_T79 o i).f2 j).f0, 0, (rd_T72 (rd_T79 o i).f2 j).f2⟩).take j.toNat)) ++ (((rd_T79 o i).f2.set j.toNat ⟨(rd_T72 (rd_T79 o i).f2 j).f0, 0, (rd_T72 (rd_T79 o i).f2 j).f2⟩).drop (wrap64 (j + 1)).toNat)).length = min j.toNat (rd_T79 o i).f2.length + ((rd_T79 o i).f2.length - (wrap64 (j + 1)).toNat) := by simp only [List.nil_append, List.length_append, List.length_take, List.length_drop, List.length_set]
 rw [hlen] at hP2
 have hbz : Below w5.heap.size w5 w8 := below_then (below_drew (Below.refl _ _)) (Nat.le_refl _) hb8
 replace HB2 := below_step HB2 hbz
 replace B10 := blk_below B10 hbz
 replace C12 := pw_cell_below hbz C12
 have C10 : w8.cell? ⟨w.heap.size + 1, 0, none⟩ = some (.slice none 0 0) := (blk_cell B10 0).trans rfl
 have F10 := blk_frozen B10 0
 have NR : g ≠ w.heap.size + 1 := by omega
 have NR' : w.heap.size + 1 ≠ g := by omega
 clear q2 x2 hH0 hHeld hP hS8 hlen
 have h := H.out
 obtain ⟨rfl, rfl⟩ : _ = r1 ∧ _ = r2 := by simpa using h
 clear h H
 generalize (if c2 = (wrap64 (j + 1)).toNat then A2 else Option.map (fun x => x.add ((wrap64 (j + 1)).toNat * 3)) A2) = AQ
 go_wp2
 refine bodyPost_ret (results_ct rfl _ _ (w.heap.size + 1) 26 #[.slice (some ⟨g, 0, none⟩) o.length co] (0, 0) _ rfl (blk_put (cs := #[.slice none 0 0]) (blk_far B10 NR' _) 0 _ rfl) Try.underlying26 rfl (by kernel_rfl)) rfl ?_
 exact ⟨_, rfl, by have h9 := Kd.S_mono (ok' := fun _ => True) (Kd.S_lower (S_box hP2.1 (show w.heap.size + 1 < w.heap.size + 2 by omega) (.slice (some ⟨g, 0, none⟩) o.length co)) (show w.heap.size ≤ w.heap.size + 2 by omega)) (fun _ _ => trivial); simpa using h9, below_set (below_set HB2 (by omega)) (by omega)⟩
 }
 {
 have c4b : (wrap64 ((rd_T72 (rd_T79 o i).f2 j).f1 - a3) == 0) = false := by simpa using c4
 unfold impl_TakeOut.g at H
 have h := H.out
 rw [if_neg c4] at h
 clear H
 have H := aM h
 clear h
 go_enter Try.func27, Try.ntmps27
 go_wp2_with (first
  | (go_at_call 20; refine (impl_Release.calls k A0 c0 l a1 a2 a3 o 0 _ (Kd.C_alloc (Kd.C_alloc HR.out _) _) HC.out Ho.out).mono ?_; rintro e w1 ⟨v0, rfl, hS, hb⟩; obtain ⟨Ao, co, rfl⟩ := Kd.S_slice hS; have B10 := aM (blk_below (blk_new1 w (.cells #[.slice A0 l.length c0] 26) (.cells #[.slice none 0 0] 26)) hb); have HB1 := aM (below_step (below_alloc (below_alloc (Below.refl w.heap.size w) _) _) hb); have HS := aM (show Kd.S k79 79 w1 (w.heap.size + 2) (fun k => k < w1.heap.size) (.slice Ao o.length co) o by refine Kd.S_mono (Kd.S_bound (ok := fun _ => True) ?_) (fun _ hk => hk.2.2.1); rw [show w.heap.size + 2 = ((w.alloc (.cells #[.slice A0 l.length c0] 26)).alloc (.cells #[.slice none 0 0] 26)).heap.size by simp]; exact hS); have HGW := aM (Kd.S_lt hS); have C10 : w1.cell? ⟨w.heap.size + 1, 0, none⟩ = some (.slice none 0 0) := (blk_cell B10.out 0).trans rfl; have F10 := blk_frozen B10.out 0; have L10 := blk_lt B10.out; have N10 := Nat.ne_of_lt L10; clear hb hS))
 have B12 := blk_new w1 (.cells #[.slice Ao o.length co] 26)
 replace B10 := blk_alloc B10.out (.cells #[.slice Ao o.length co] 26)
 replace HS := Kd.S_alloc HS.out (.cells #[.slice Ao o.length co] 26)
 have HB2 := below_alloc HB1.out (.cells #[.slice Ao o.length co] 26)
 clear C10 F10 HB1
 generalize w1.alloc (.cells #[.slice Ao o.length co] 26) = w2 at B12 B10 HS HB2 ⊢
 obtain ⟨g, oki, A2, c2, e, hgb, hgl, x0, x1, x2, f0, f1, f2, hR2, hoki, hn, hH⟩ := S79_at HS i ci0 ci1
 cases e
 clear hoki hH f0 f1 f2
 have C12 : w2.cell? ⟨w1.heap.size, 0, none⟩ = some (.slice (some ⟨g, 0, none⟩) o.length co) := (blk_cell B12 0).trans rfl
 have p8 := eq_true ci0
 have q8 := eq_true ci1
 refine start_ (n := 7) (S := fun w' => w'.cell? ⟨w1.heap.size, 0, none⟩ = some (.slice (some ⟨g, 0, none⟩) o.length co)) (ds := []) #[false, false, false, false, false, false, false] (by kernel_rfl) rfl rfl C12 (fun hHeld => ?_); refine with_tabW impl_TakeOut.tab4 impl_TakeOut.bits4 (fun HT_ HW_ => ?_)
 refine pI_ 0 27 #[true, false, false, false, false, false, false] ?_
 refine pI_ 3 30 #[true, false, false, true, false, false, false] ?_
 refine tI1_ 1 28 #[true, true, false, true, false, false, false] ?_
 refine tI1_ 2 29 #[true, true, true, true, false, false, false] ?_
 refine one_ (i := 4) (N := some 31) #[true, true, true, true, true, false, false] rfl rfl qzc (by decide) (fun K hK => ?_)
 refine goes_ Try.func69 (by kernel_rfl) rfl #[.agg #[.slice (some ⟨g, 0, none⟩) o.length co], .int .i64 a1] (by rfl) rfl rfl qz34 ?_
 refine (impl_podAt.calls k _ _ o a1 i _ (Kd.S_reads' (Kd.S_drew HS)).2.2 (Kd.S_reads' (Kd.S_drew HS)).2.1 Hi.out).mono ?_
 rintro e w3 ⟨rfl, hb⟩
 refine ⟨_, rfl, ?_⟩
 refine hK.out _ _ (pw_cell_below hb hHeld) (fun hHeld => ?_)
 clear hK K
 refine nm_ 31 ?_
 refine pI_ 5 32 #[true, true, true, true, true, true, false] ?_
 refine pI_ 6 12 #[true, true, true, true, true, true, true] ?_
 refine done_ (done_of HT_.out (by kernel_rfl)) ?_
 clear hHeld HT_ HW_
 have hbz : Below w2.heap.size w2 w3 := below_then (below_drew (Below.refl _ _)) (Nat.le_refl _) hb
 clear hb
 replace C12 := pw_cell_below hbz C12
 replace B10 := blk_below B10 hbz
 replace HS := aM (Kd.S_below HS hbz)
 replace hR2 := aM (Kd.R_below hR2 hbz)
 have HR2 := aM (Kd.R_reads' hR2.out)
 replace x0 := pw_cell_below hbz x0
 replace x1 := pw_cell_below hbz x1
 replace x2 := pw_cell_below hbz x2
 replace HB2 := below_step HB2 hbz
 replace hgl := Nat.lt_of_lt_of_le hgl (below_size hbz)
 clear hbz
 go_wp2_with (first
  | (go_at_call 67; refine (impl_stackAt.calls k (rd_T79 o i).f0 (rd_T79 o i).f1 A2 c2 (rd_T79 o i).f2 a2 j ok _ HR2.out.2.2 HR2.out.2.1 Hs.out).mono ?_; rintro e w4 ⟨rfl, hb⟩; replace C12 := pw_cell_below hb C12; replace B10 := blk_below B10 hb; replace HS := aM (Kd.S_below HS.out hb); have hR4 := Kd.R_below hR2.out hb; clear HR2 hR2; replace x0 := pw_cell_below hb x0; replace x1 := pw_cell_below hb x1; replace x2 := pw_cell_below hb x2; replace HB2 := below_step HB2 hb; replace hgl := Nat.lt_of_lt_of_le hgl (below_size hb); obtain ⟨g2, e, hgb2, hgl2, hok2, hn2, y0, y1, y2, z0, z1, z2, hput1, hput2⟩ := R72_at hR4 j cj0 cj1; cases e; clear hput1 hput2 hok2 hR4; have HP := aM (S79_put HS.out i j ci0 ci1 cj0 cj1 (c2 := c2) (g2 := g2) x2 (wrap64 ((rd_T72 (rd_T79 o i).f2 j).f1 - a3))); have hg1 := HP.out.2.2.1; have HK2 := aM HP.out.2.2.2.1; have hg3 := HP.out.2.2.2.2.1; have n1 := Nat.ne_of_gt (Nat.lt_of_lt_of_le (Nat.lt_succ_self (w.heap.size + 1)) hgb2); have n2 := Nat.ne_of_lt (Nat.lt_of_lt_of_le (Nat.lt_succ_self (w.heap.size + 1)) hgb2); have n3 := HGW.out g rfl; have n4 := Nat.ne_of_lt n3; have n5 := Nat.ne_of_gt n3; have B12 := HGW.out g rfl; have F10 := blk_frozen B10 0; have C10 : w4.cell? ⟨w.heap.size + 1, 0, none⟩ = some (.slice none 0 0) := (blk_cell B10 0).trans rfl; have hg4 := Ne.symm hg3; clear hb))
 obtain ⟨rfl, rfl⟩ : _ = r1 ∧ _ = r2 := by simpa using H.out
 have hP := HP.out.1
 refine bodyPost_ret (results_ct rfl _ _ (w.heap.size + 1) 26 #[.slice (some ⟨g, 0, none⟩) o.length co] (0, 0) _ rfl (blk_put (cs := #[.slice none 0 0]) (blk_far B10 n2 _) 0 _ rfl) Try.underlying26 rfl (by kernel_rfl)) rfl ?_
 exact ⟨_, rfl, Kd.S_mono (Kd.S_lower (S_box hP.1 (show w.heap.size + 1 < w.heap.size + 2 by omega) _) (by omega)) (fun _ _ => trivial), below_set (below_set HB2 (by omega)) (by omega)⟩
 }
 }
 {
 rw [if_neg cj1] at h; cases h
 }
 }
 {
 rw [if_neg cj0] at h; cases h
 }
 }
 {
 rw [if_neg ci1] at h; cases h
 }
 }
 {
 rw [if_neg ci0] at h; cases h
 }
 }
 {
 rw [if_neg c1] at h
 obtain ⟨rfl, rfl⟩ : o = r1 ∧ code = r2 := by simpa using h
 have c1b : (code != 0) = true := by simpa using c1
 clear h c1
 go_enter Try.func27, Try.ntmps27
 go_wp2_with (first
  | (go_at_call 20; refine (impl_Release.calls k A0 c0 l a1 a2 a3 o code _ (Kd.C_alloc (Kd.C_alloc HR.out _) _) HC.out Ho.out).mono ?_; rintro e w1 ⟨v0, rfl, hS, hb⟩; obtain ⟨Ao, co, rfl⟩ := Kd.S_slice hS; have B10 := aM (blk_below (blk_new1 w (.cells #[.slice A0 l.length c0] 26) (.cells #[.slice none 0 0] 26)) hb); have HB1 := aM (below_step (below_alloc (below_alloc (Below.refl w.heap.size w) _) _) hb); have HS := aM (show Kd.S k79 79 w1 (w.heap.size + 2) (fun k => k < w1.heap.size) (.slice Ao o.length co) o by refine Kd.S_mono (Kd.S_bound (ok := fun _ => True) ?_) (fun _ hk => hk.2.2.1); rw [show w.heap.size + 2 = ((w.alloc (.cells #[.slice A0 l.length c0] 26)).alloc (.cells #[.slice none 0 0] 26)).heap.size by simp]; exact hS); have HGW := aM (Kd.S_lt hS); have C10 : w1.cell? ⟨w.heap.size + 1, 0, none⟩ = some (.slice none 0 0) := (blk_cell B10.out 0).trans rfl; have F10 := blk_frozen B10.out 0; have L10 := blk_lt B10.out; have N10 := Nat.ne_of_lt L10; clear hb hS))
 have L10 := L10
 refine bodyPost_ret (results_ct rfl _ _ (w.heap.size + 1) 26 #[.slice Ao o.length co] (0, 0) _ rfl (blk_alloc (blk_put (cs := #[.slice none 0 0]) B10.out 0 _ rfl) _) Try.underlying26 rfl (by kernel_rfl)) rfl ?_
 exact ⟨_, rfl, Kd.S_mono (Kd.S_lower (Kd.S_alloc (S_box HS.out (show w.heap.size + 1 < w.heap.size + 2 by omega) _) _) (by omega)) (fun _ _ => trivial), below_alloc (below_set HB1.out (by omega)) _⟩

 }
/-! ### impl_TakeAll: function 41, impl.each over TakeOut: function 83 -/
def impl_eachTakeOut.l0 : Nat → List S79 → List S50 → Int → List S79 → Option (List S79 × Bool)
 | 0, _, _, _, _ => none
 | k + 1, s, p, i, out => if i < (p.length : Int) then (if 0 ≤ i then ((impl_TakeOut.f k out (rd_T50 p i).f0 (rd_T50 p i).f1 (rd_T50 p i).f2).bind fun q => if q.2 = 0 then impl_eachTakeOut.l0 k s p (wrap64 (i + 1)) q.1 else ((impl_copyStock.f k s).bind fun c => some (c, false))) else none) else some (out, true)
def impl_eachTakeOut.f (k : Nat) (s : List S79) (p : List S50) : Option (List S79 × Bool) := (impl_copyStock.f k s).bind fun o => impl_eachTakeOut.l0 k s p 0 o
theorem impl_eachTakeOut.mono_l : ∀ k, (∀ y0 y1 y2 y3, LeO (impl_eachTakeOut.l0 k y0 y1 y2 y3) (impl_eachTakeOut.l0 (k + 1) y0 y1 y2 y3))
 | 0 => fun _ _ _ _ r h => by simp [impl_eachTakeOut.l0] at h
 | k + 1 => by
  have ih0 := impl_eachTakeOut.mono_l k
  intro y0 y1 y2 y3
  unfold impl_eachTakeOut.l0
  have j0 := @impl_TakeOut.mono
  have j1 := @impl_copyStock.mono
  exact qL
theorem impl_eachTakeOut.mono : ∀ a0 a1 k, LeO (impl_eachTakeOut.f k a0 a1) (impl_eachTakeOut.f (k + 1) a0 a1) := by
 intro a0 a1 k
 unfold impl_eachTakeOut.f
 exact LeO.bind (impl_copyStock.mono _ _) (fun _ => impl_eachTakeOut.mono_l k _ _ _ _)
set_option maxHeartbeats 8000000 in
set_option maxRecDepth 100000 in
theorem impl_eachTakeOut.calls (k : Nat) (A0_0 : Option Addr) (c0_0 : Nat) (l0_0 : List S79) (A1 : Option Addr) (c1 : Nat) (l1 : List S50) (r1 : List S79) (r2 : Bool) (w : World) (hr0_0 : Kd.C k79 w A0_0 l0_0.length l0_0) (hc0_0 : l0_0.length ≤ c0_0) (hr1 : Kd.C k50 w A1 l1.length l1) (hc1 : l1.length ≤ c1) (h : impl_eachTakeOut.f k l0_0 l1 = some (r1, r2)) :
  Calls Try.prog 83 #[.agg #[.slice A0_0 l0_0.length c0_0], .slice A1 l1.length c1, .func (.func 27) #[] #[]] w fun e w' => ∃ v0_ : Value, e = .returned (.tuple #[.agg #[v0_], .bool r2]) ∧ Kd.S k79 79 w' w.heap.size (fun _ => True) v0_ r1 ∧ Below w.heap.size w w' := by
 have hu26 := Try.underlying26
 have hu24 := Try.underlying24
 have hu50 := Try.underlying50
 have hu43 := Try.underlying43
 unfold impl_eachTakeOut.f at h
 obtain ⟨o, ho, h⟩ := Option.bind_eq_some_iff.mp h
 have Ho := aM ho
 have H' := aM h
 have HR := aM hr0_0
 have HC := aM hc0_0
 have HP := aM hr1
 have HPC := aM hc1
 clear ho h hr0_0 hc0_0 hr1 hc1
 go_enter Try.func83, Try.ntmps83
 go_wp2_with (first
  | (go_at_call 65; refine (impl_copyStock.calls k _ _ l0_0 o _ (Kd.C_alloc (Kd.C_alloc HR.out _) _) HC.out Ho.out).mono ?_; rintro e w1 ⟨v0, rfl, hS, hb⟩; obtain ⟨Ao, co, rfl⟩ := Kd.S_slice hS; have B3 := aM (blk_below (blk_alloc (blk_new w (.cells #[.slice A0_0 l0_0.length c0_0] 26)) (.cells #[.slice none 0 0] 26)) hb); have B6 := aM (blk_below (blk_new1 w (.cells #[.slice A0_0 l0_0.length c0_0] 26) (.cells #[.slice none 0 0] 26)) hb); have HB1 := aM (below_step (below_alloc (below_alloc (Below.refl w.heap.size w) _) _) hb); have HS := aM (show Kd.S k79 79 w1 (w.heap.size + 2) (fun k => k < w1.heap.size) (.slice Ao o.length co) o by refine Kd.S_mono (Kd.S_bound (ok := fun _ => True) ?_) (fun _ hk => hk.2.2.1); rw [show w.heap.size + 2 = ((w.alloc (.cells #[.slice A0_0 l0_0.length c0_0] 26)).alloc (.cells #[.slice none 0 0] 26)).heap.size by simp]; exact hS); have L6 := aM (blk_lt B6.out); clear hb hS))
 have hS := aM (Kd.S_mono (ok' := fun k => k ≠ w1.heap.size) (Kd.S_alloc HS.out (.cells #[.slice Ao o.length co] 26)) (fun k (hk : k < w1.heap.size) => Nat.ne_of_lt hk))
 have B8 := aM (blk_new w1 (.cells #[.slice Ao o.length co] 26))
 replace B3 := aM (blk_alloc B3.out (.cells #[.slice Ao o.length co] 26))
 replace B6 := aM (blk_alloc B6.out (.cells #[.slice Ao o.length co] 26))
 have HB2 := aM (below_alloc HB1.out (.cells #[.slice Ao o.length co] 26))
 clear HS HB1
 generalize w1.alloc (.cells #[.slice Ao o.length co] 26) = w2 at hS B3 B6 B8 HB2 ⊢
 generalize hg8 : w1.heap.size = g8 at hS B8 L6 ⊢
 clear hg8
 go_loopg [17] k (fun kq v17 w' => ∃ (x17 : Int) (out : List S79) (Ao : Option Addr) (co : Nat), v17 = .int .i64 x17 ∧ Aside0 (impl_eachTakeOut.l0 kq l0_0 l1 x17 out = some (r1, r2)) ∧ Aside0 (kq ≤ k) ∧ Aside0 (Kd.S k79 79 w' (w.heap.size + 2) (fun k => k ≠ g8) (.slice Ao out.length co) out) ∧ Aside0 (w'.heap[w.heap.size]? = some (.cells #[.slice A0_0 l0_0.length c0_0] 26 (0, 0))) ∧ Aside0 (w'.heap[w.heap.size + 1]? = some (.cells #[.slice none 0 0] 26 (0, 0))) ∧ Aside0 (w'.heap[g8]? = some (.cells #[.slice Ao out.length co] 26 (0, 0))) ∧ Aside0 (Below w.heap.size w w'))
 case atStart => exact ⟨0, o, Ao, co, rfl, H', ⟨Nat.le_refl _⟩, hS, B3, B6, B8, HB2⟩
 case round =>
  clear H' hS B3 B6 B8 HB2
  try clear p2
  obtain ⟨x17, out, Ao, co, rfl, HA, HK1, HS, B3, B6, B8, HB⟩ := hrel
  have L6w := L6.out
  have L8 := blk_lt B8.out
  have C3 : wr.cell? ⟨w.heap.size, 0, none⟩ = some (.slice A0_0 l0_0.length c0_0) := (blk_cell B3.out 0).trans rfl
  have C6 : wr.cell? ⟨w.heap.size + 1, 0, none⟩ = some (.slice none 0 0) := (blk_cell B6.out 0).trans rfl
  have C8 : wr.cell? ⟨g8, 0, none⟩ = some (.slice Ao out.length co) := (blk_cell B8.out 0).trans rfl
  have F6 := blk_frozen B6.out 0
  have F8 := blk_frozen B8.out 0
  have L3 := blk_lt B3.out
  have L6r := blk_lt B6.out
  have N8 : w.heap.size + 1 ≠ g8 := Nat.ne_of_lt L6w
  have N8' : g8 ≠ w.heap.size + 1 := Nat.ne_of_gt L6w
  have N83 : w.heap.size ≠ g8 := by omega
  have N83' : g8 ≠ w.heap.size := by omega
  cases gk with
  | zero => exact absurd HA.out (by simp [impl_eachTakeOut.l0])
  | succ k1 =>
   have H := HA.out
   clear HA
   simp only [impl_eachTakeOut.l0] at H
   by_cases c3 : x17 < (l1.length : Int)
   {
   rw [if_pos c3] at H
   by_cases c4 : 0 ≤ x17
   {
   rw [if_pos c4] at H
   obtain ⟨⟨q1, q2⟩, hq, H⟩ := Option.bind_eq_some_iff.mp H
   have HQ := aM hq
   clear hq
   dsimp only at H
   obtain ⟨adp, ep, y0, y1, y2⟩ := at_T50 HP.out x17 c4 c3
   subst ep
   replace y0 := pw_cell_below' HB.out y0
   replace y1 := pw_cell_below' HB.out y1
   replace y2 := pw_cell_below' HB.out y2
   have c3b0 := decide_eq_true c3
   have p5 := eq_true c4
   have q5 := eq_true c3
   have HRO := aM (Kd.S_reads' (Kd.S_alloc HS.out (.cells #[.int .i64 (rd_T50 l1 x17).f0, .int .i64 (rd_T50 l1 x17).f1, .int .i64 (rd_T50 l1 x17).f2] 50)))
   by_cases cq : q2 = 0
   {
   subst cq
   rw [if_pos rfl] at H
   have H' := aM H
   clear H
   go_wp2_with (first
    | (go_at_call 27; refine (impl_TakeOut.calls k1 _ _ out (rd_T50 l1 x17).f0 (rd_T50 l1 x17).f1 (rd_T50 l1 x17).f2 q1 0 _ HRO.out.2.2 HRO.out.2.1 HQ.out).mono ?_; rintro e w4 ⟨v0, rfl, hS, hb⟩; obtain ⟨An, cn, rfl⟩ := Kd.S_slice hS; have hU := below_step (below_alloc (Below.refl wr.heap.size wr) _) hb; replace B3 := aM (blk_below B3.out hU); replace B6 := aM (blk_below B6.out hU); replace B8 := aM (blk_below B8.out hU); replace HB := aM (below_step HB.out hU); have HS4 := aM (show Kd.S k79 79 w4 (w.heap.size + 2) (fun k => k ≠ g8) (.slice An q1.length cn) q1 from Kd.S_lower (Kd.S_mono (Kd.S_bound hS) (fun k hk => by have h2 := hk.2.1; rw [World.size_alloc] at h2; have h3 := L8; omega)) (by rw [World.size_alloc]; have h3 := L6r; omega)); replace C8 : w4.cell? ⟨g8, 0, none⟩ = some (.slice Ao out.length co) := (blk_cell B8.out 0).trans rfl; replace F8 := blk_frozen B8.out 0; have L84 := blk_lt B8.out; have N84 := Nat.ne_of_lt L84; have N84' := Nat.ne_of_gt L84; clear HS HRO hS hb hU C3 C6 F6 L8 y0 y1 y2 L3 L6r))
   go_roundg k1
   case measure => have := HK1.out; omega
   case rel => exact ⟨wrap64 (x17 + 1), q1, An, cn, rfl, H', ⟨by have := HK1.out; omega⟩, ⟨Kd.S_alloc (Kd.S_far (p := ⟨g8, 0, none⟩) HS4.out (fun _ hk => hk) _) _⟩, ⟨blk_alloc (blk_far B3.out N83 _) _⟩, ⟨blk_alloc (blk_far B6.out N8 _) _⟩, ⟨blk_alloc (blk_put (cs := #[.slice Ao out.length co]) B8.out 0 _ rfl) _⟩, ⟨below_alloc (below_set HB.out (by omega)) _⟩⟩
   }
   {
   rw [if_neg cq] at H
   obtain ⟨cc, hcc, H⟩ := Option.bind_eq_some_iff.mp H
   have HCC := aM hcc
   obtain ⟨rfl, rfl⟩ : cc = r1 ∧ false = r2 := by simpa using H
   clear hcc H
   have cqb : (q2 != 0) = true := by simpa using cq
   clear cq
   go_wp2_with (first
    | (go_at_call 27; refine (impl_TakeOut.calls k1 _ _ out (rd_T50 l1 x17).f0 (rd_T50 l1 x17).f1 (rd_T50 l1 x17).f2 q1 q2 _ HRO.out.2.2 HRO.out.2.1 HQ.out).mono ?_; rintro e w4 ⟨v0, rfl, hS, hb⟩; obtain ⟨An, cn, rfl⟩ := Kd.S_slice hS; have hU := below_step (below_alloc (Below.refl wr.heap.size wr) _) hb; replace B3 := aM (blk_below B3.out hU); replace B6 := aM (blk_below B6.out hU); replace HB := aM (below_step HB.out hU); have C3' : w4.cell? ⟨w.heap.size, 0, none⟩ = some (.slice A0_0 l0_0.length c0_0) := (blk_cell B3.out 0).trans rfl; have L3' := blk_lt B3.out; clear HS HRO hS hb hU C3 C6 C8 F6 F8 L8 L3 L6r B8 y0 y1 y2)
    | (go_at_call 65; refine (impl_copyStock.calls k1 _ _ l0_0 cc _ (Kd.C_below HR.out (below_alloc HB.out _)) HC.out HCC.out).mono ?_; rintro e w5 ⟨v0, rfl, hS, hb⟩; obtain ⟨Ac, cc5, rfl⟩ := Kd.S_slice hS; have hU := below_step (below_alloc (Below.refl w4.heap.size w4) _) hb; have L6q := blk_lt B6.out; replace B6 := aM (blk_below B6.out hU); replace HB := aM (below_step HB.out hU); have HS5 := aM (show Kd.S k79 79 w5 (w.heap.size + 2) (fun k => True) (.slice Ac cc.length cc5) cc from Kd.S_lower hS (by rw [World.size_alloc]; omega)); have C6' : w5.cell? ⟨w.heap.size + 1, 0, none⟩ = some (.slice none 0 0) := (blk_cell B6.out 0).trans rfl; have F6' := blk_frozen B6.out 0; clear hS hb hU C3' L3'))
   refine bodyPost_ret (results_ct rfl _ _ (w.heap.size + 1) 26 #[.slice Ac cc.length cc5] (0, 0) _ rfl (blk_put (cs := #[.slice none 0 0]) B6.out 0 _ rfl) Try.underlying26 rfl (by kernel_rfl)) rfl ?_
   exact ⟨_, rfl, Kd.S_lower (S_box HS5.out (show w.heap.size + 1 < w.heap.size + 2 by omega) _) (by omega), below_set HB.out (by omega)⟩
   }
   }
   {
   exact an_ c4 H
   }
   }
   {
   rw [if_neg c3] at H
   have c3b0 := decide_eq_false c3
   clear c3
   obtain ⟨rfl, rfl⟩ : out = r1 ∧ true = r2 := by simpa using H
   clear H
   go_wp2
   refine bodyPost_ret (results_ct rfl _ _ (w.heap.size + 1) 26 #[.slice Ao out.length co] (0, 0) _ rfl (blk_put (cs := #[.slice none 0 0]) B6.out 0 _ rfl) Try.underlying26 rfl (by kernel_rfl)) rfl ?_
   exact ⟨_, rfl, Kd.S_mono (ok' := fun _ => True) (Kd.S_lower (S_box HS.out (show w.heap.size + 1 < w.heap.size + 2 by omega) _) (by omega)) (fun _ _ => trivial), below_set HB.out (by omega)⟩
   }
def impl_TakeAll.f (k : Nat) (s : List S79) (p : List S50) : Option (List S79 × Bool) := impl_eachTakeOut.f k s p
theorem impl_TakeAll.mono : ∀ a0 a1 k, LeO (impl_TakeAll.f k a0 a1) (impl_TakeAll.f (k + 1) a0 a1) := impl_eachTakeOut.mono
set_option maxHeartbeats 8000000 in
set_option maxRecDepth 100000 in
theorem impl_TakeAll.calls (k : Nat) (A0_0 : Option Addr) (c0_0 : Nat) (l0_0 : List S79) (A1 : Option Addr) (c1 : Nat) (l1 : List S50) (r1 : List S79) (r2 : Bool) (w : World) (hr0_0 : Kd.C k79 w A0_0 l0_0.length l0_0) (hc0_0 : l0_0.length ≤ c0_0) (hr1 : Kd.C k50 w A1 l1.length l1) (hc1 : l1.length ≤ c1) (h : impl_TakeAll.f k l0_0 l1 = some (r1, r2)) :
  Calls Try.prog 41 #[.agg #[.slice A0_0 l0_0.length c0_0], .slice A1 l1.length c1] w fun e w' => ∃ v0_ : Value, e = .returned (.tuple #[.agg #[v0_], .bool r2]) ∧ Kd.S k79 79 w' w.heap.size (fun _ => True) v0_ r1 ∧ Below w.heap.size w w' := by
 have hu26 := Try.underlying26
 have H := aM h
 have HR := aM hr0_0
 have HC := aM hc0_0
 have HP := aM hr1
 have HPC := aM hc1
 clear h hr0_0 hc0_0 hr1 hc1
 go_enter Try.func41, Try.ntmps41
 go_wp2_with (first
  | (go_at_call 83; refine (impl_eachTakeOut.calls k _ _ l0_0 _ _ l1 r1 r2 _ (Kd.C_alloc (Kd.C_alloc HR.out _) _) HC.out (Kd.C_alloc (Kd.C_alloc HP.out _) _) HPC.out H.out).mono ?_; rintro e w1 ⟨v0, rfl, hS, hb⟩; obtain ⟨Ao, co, rfl⟩ := Kd.S_slice hS; have B4 := aM (blk_below (blk_new1 w (.cells #[.slice A0_0 l0_0.length c0_0] 26) (.cells #[.slice none 0 0] 26)) hb); have HB := aM (below_step (below_alloc (below_alloc (Below.refl w.heap.size w) _) _) hb); have HS := aM (show Kd.S k79 79 w1 (w.heap.size + 2) (fun _ => True) (.slice Ao r1.length co) r1 by rw [show w.heap.size + 2 = ((w.alloc (.cells #[.slice A0_0 l0_0.length c0_0] 26)).alloc (.cells #[.slice none 0 0] 26)).heap.size by simp]; exact hS); have C4 : w1.cell? ⟨w.heap.size + 1, 0, none⟩ = some (.slice none 0 0) := (blk_cell B4.out 0).trans rfl; have F4 := blk_frozen B4.out 0; clear hb hS))
 refine bodyPost_ret (results_ct rfl _ _ (w.heap.size + 1) 26 #[.slice Ao r1.length co] (0, 0) _ rfl (blk_put (cs := #[.slice none 0 0]) B4.out 0 _ rfl) Try.underlying26 rfl (by kernel_rfl)) rfl ?_
 exact ⟨_, rfl, Kd.S_lower (S_box HS.out (show w.heap.size + 1 < w.heap.size + 2 by omega) _) (by omega), below_set HB.out (by omega)⟩

end Go.Proofs.Yteajnkondkfmgaa.PFnPicks
