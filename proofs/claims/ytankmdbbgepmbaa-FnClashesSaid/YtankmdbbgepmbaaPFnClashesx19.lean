-- Made by a program of this session out of the translation. Lean checks it.
import Derived.Test.YtankmdbbgepmbaaPFnClashesx17
namespace Go.Proofs.Ytankmdbbgepmbaa.PFnClashes
open Go.RowKit Go.Proofs.YtankmdbbgepmbaaW.PrintWords Go.Proofs.YtankmdbbgepmbaaW.PrintLast Go.Proofs.YtankmdbbgepmbaaW.PrintMore
set_option linter.unusedVariables false
set_option linter.unusedSimpArgs false
set_option maxHeartbeats 16000000
set_option maxRecDepth 100000

/-! ### spec_Step: function 41 -/
def spec_Step.f (k : Nat) (a0_0 : Int) (a0_1 : Int) (l0_2 : List Int) (l1 : List (S37)) : Option (List Int) := (spec_CrewOk.f k a0_0 a0_1 l0_2 l1).bind fun t398 => (if t398 = true then ((spec_l8Step.f k a0_0 a0_1 l0_2 l1).bind fun t399 => (some t399)) else (some (([] : List Int))))
theorem spec_Step.mono : ∀ a0 a1 a2 a3 k, LeO (spec_Step.f k a0 a1 a2 a3) (spec_Step.f (k + 1) a0 a1 a2 a3) := by
 intro a0 a1 a2 a3 k
 unfold spec_Step.f
 have j0 := @spec_CrewOk.mono
 have j1 := @spec_l8Step.mono
 exact qL
theorem spec_Step.calls (k : Nat) (a0_0 : Int) (a0_1 : Int) (A0_2 : Option Addr) (c0_2 : Nat) (l0_2 : List Int) (A1 : Option Addr) (c1 : Nat) (l1 : List (S37)) (r : List Int) (w : World) (hr0_2 : Kd.C (Kd.int .i64) w A0_2 l0_2.length l0_2) (hc0_2 : l0_2.length ≤ c0_2) (hr1 : Kd.C k37 w A1 l1.length l1) (hc1 : l1.length ≤ c1) (h : spec_Step.f k a0_0 a0_1 l0_2 l1 = some r) :
  Calls Try.prog 41 #[.agg #[.int .i64 a0_0, .int .i64 a0_1, .slice A0_2 l0_2.length c0_2], .slice A1 l1.length c1] w fun e w' => ∃ v0_ : Value, e = .returned (v0_) ∧ Kd.R (Kd.int .i64) 3 w' w.heap.size (fun _ => True) v0_ r ∧ Below w.heap.size w w' := by
 have hu43 := Try.underlying43
 have HR0_2 := aM hr0_2
 have HC0_2 := aM hc0_2
 clear hr0_2 hc0_2
 have HR1 := aM hr1
 have HC1 := aM hc1
 clear hr1 hc1
 have HB := aM (Below.refl w.heap.size w)
 unfold spec_Step.f at h
 have H := h
 clear h
 replace H := Option.bind_eq_some_iff.mp H
 obtain ⟨t398, A30, H⟩ := H
 have A3 := aM A30
 clear A30
 replace H := iB_ H
 rcases H with ⟨rfl, H⟩ | ⟨rfl, H⟩
 {
 replace H := Option.bind_eq_some_iff.mp H
 obtain ⟨t399, A50, H⟩ := H
 have A5 := aM A50
 clear A50
 obtain rfl := Option.some.inj H
 go_enter Try.func41, Try.ntmps41
 go_wp2_with (first | ((with_reducible refine gate_dst (N := 2) rfl ?_); refine bx_ 2 #[.int .i64 a0_0, .int .i64 a0_1, .slice A0_2 l0_2.length c0_2] 43 ?_; intro gb397 hg w6 hbox hb; have BK397 := aM (hbox); have GW397 := aM (bz_ w hg qz1); have GE397 := GW397; replace HB := bS_ hb; clear hb hbox hg; obtain ⟨hcz7_0, hcz7_1, hcz7_2, hfz7_0, hfz7_1, hfz7_2⟩ := b6_ BK397.out) | ((with_reducible refine gate_callee (f := 76) rfl ?_); refine goesL_ (some 7) rfl rfl Try.func76 (by kernel_rfl) rfl #[.agg #[.int .i64 a0_0, .int .i64 a0_1, .slice A0_2 l0_2.length c0_2], .slice A1 l1.length c1] rfl qz2 ?_; (with_reducible refine (spec_CrewOk.calls k a0_0 a0_1 _ _ l0_2 _ _ l1 true _ ?_ ?_ ?_ ?_ A3.out).mono ?_); exact qz6; exact qz28; exact qz10; exact HC1.out; rintro e w8 ⟨rfl, hb⟩; refine ⟨_, rfl, ?_⟩; replace BK397 := bB_ BK397 hb; replace HB := bS_ hb; (try clear hb); obtain ⟨hcz9_0, hcz9_1, hcz9_2, hfz9_0, hfz9_1, hfz9_2⟩ := b6_ BK397.out) | ((with_reducible refine gate_callee (f := 82) rfl ?_); refine goesL_ (some 12) rfl rfl Try.func82 (by kernel_rfl) rfl #[.agg #[.int .i64 a0_0, .int .i64 a0_1, .slice A0_2 l0_2.length c0_2], .slice A1 l1.length c1] rfl qz2 ?_; (with_reducible refine (spec_l8Step.calls k a0_0 a0_1 _ _ l0_2 _ _ l1 t399 _ ?_ ?_ ?_ ?_ A5.out).mono ?_); exact qz6; exact qz28; exact qz10; exact HC1.out; rintro e w10 ⟨v400, rfl, ho0, hb⟩; refine ⟨_, rfl, ?_⟩; have HO401 := aM (Kd.R_lower ho0 (below_size qz1)); replace BK397 := bB_ BK397 hb; replace HB := bS_ hb; (try clear hb ho0)))
 go_ret
 exact ⟨_, qzw, by (with_reducible repeat (first | apply Kd.R_alloc | apply Kd.R_drewN | apply Kd.R_drew)); exact HO401.out, qz1⟩
 }
 {
 obtain ⟨y402, hy402⟩ : ∃ y_ : List Int, y_ = (([] : List Int)) := ⟨_, rfl⟩
 replace H : (some y402) = some r := by first | (rw [hy402]; exact H) | exact H
 have Ny402 := aM hy402
 clear hy402
 obtain rfl := Option.some.inj H
 go_enter Try.func41, Try.ntmps41
 go_wp2_with (first | ((with_reducible refine gate_dst (N := 2) rfl ?_); refine bx_ 2 #[.int .i64 a0_0, .int .i64 a0_1, .slice A0_2 l0_2.length c0_2] 43 ?_; intro gb397 hg w11 hbox hb; have BK397 := aM (hbox); have GW397 := aM (bz_ w hg qz1); have GE397 := GW397; replace HB := bS_ hb; clear hb hbox hg; obtain ⟨hcz12_0, hcz12_1, hcz12_2, hfz12_0, hfz12_1, hfz12_2⟩ := b6_ BK397.out) | ((with_reducible refine gate_callee (f := 76) rfl ?_); refine goesL_ (some 7) rfl rfl Try.func76 (by kernel_rfl) rfl #[.agg #[.int .i64 a0_0, .int .i64 a0_1, .slice A0_2 l0_2.length c0_2], .slice A1 l1.length c1] rfl qz2 ?_; (with_reducible refine (spec_CrewOk.calls k a0_0 a0_1 _ _ l0_2 _ _ l1 false _ ?_ ?_ ?_ ?_ A3.out).mono ?_); exact qz6; exact qz28; exact qz10; exact HC1.out; rintro e w13 ⟨rfl, hb⟩; refine ⟨_, rfl, ?_⟩; replace BK397 := bB_ BK397 hb; replace HB := bS_ hb; (try clear hb)) | ((with_reducible refine gate_dst (N := 9) rfl ?_); refine Kd.R_lit (Kd.int .i64) _ 3 ?hg (N := 9) ?hd (xs := ([] : List Int)) (inner := []) (ok := fun _ => True) (okp := fun _ => True) ?hr ?hp (fun _ hk => hk) trivial (Below.refl _ _) (Nat.le_refl _) (by simp) ?_; (case hd => rfl); (case hg => rfl); (case hr => exact qz9); (case hp => exact (Reps.none _ _)); intro v403 w14 ho15 hb hg_ hnew_; clear hg_ hnew_; (first | rw [← Ny402.out] at ho15 | (simp only [Int.reduceToNat] at ho15; rw [← Ny402.out] at ho15)); have HO404 := aM (Kd.R_lower ho15 (below_size qz1)); replace BK397 := bB_ BK397 hb; replace HB := bS_ hb; clear hb ho15))
 go_ret
 exact ⟨_, qzw, by (with_reducible repeat (first | apply Kd.R_alloc | apply Kd.R_drewN | apply Kd.R_drew)); exact HO404.out, qz1⟩
 }
/-- A state of type 113 at block g of W; what its slices lead to came in by w0. -/
def IsS113 (w0 W : World) (g : Nat) (f0 : List Int) (f1 : Int) (f2 : Int) : Prop := ∃ A0 c0, W.heap[g]? = some (.cells #[.slice A0 f0.length c0, .int .i64 f1, .int .i64 f2] 113 (0, 0)) ∧ w0.heap.size ≤ g ∧ Kd.C (Kd.int .u8) w0 A0 f0.length f0
theorem IsS113.grown {w0 W : World} {g : Nat} {f0 : List Int} {f1 : Int} {f2 : Int} {W1 : World} {row : Option Nat} (h : IsS113 w0 W g f0 f1 f2) (hw : W.grownBy W1 row) (hne : some g ≠ row) : IsS113 w0 W1 g f0 f1 f2 := by
 obtain ⟨A0, c0, hb, hg, hr0⟩ := h
 exact ⟨A0, c0, blk_grown hb hw hne, hg, hr0⟩
theorem IsS113.own_neN {w0 W : World} {g : Nat} {f0 : List Int} {f1 : Int} {f2 : Int} {α : Type} {d : Kd α} {e : Nat} {base : Nat} {ok : Nat → Prop} {v : Value} {xs : List α} (h : IsS113 w0 W g f0 f1 f2) (ho : Kd.N d e W base ok v xs) (ht : e ≠ 113) : some g ≠ v.ownBlock := by
 obtain ⟨A0, c0, hb, hg, hr0⟩ := h
 exact Kd.N_ne ho hb ht
theorem IsS113.fresh {w0 W : World} {g : Nat} {f0 : List Int} {f1 : Int} {f2 : Int} (h : IsS113 w0 W g f0 f1 f2) : ∀ k, W.heap.size ≤ k → k ≠ g := by
 obtain ⟨A0, c0, hb, hg, hr0⟩ := h
 exact Kd.freshB hb
theorem IsS113.kept {w0 W : World} {g : Nat} {f0 : List Int} {f1 : Int} {f2 : Int} {W1 : World} {S : Nat → Prop} (h : IsS113 w0 W g f0 f1 f2) (hk : Kept W W1 S) (hne : ¬ S g) : IsS113 w0 W1 g f0 f1 f2 := by
 obtain ⟨A0, c0, hb, hg, hr0⟩ := h
 exact ⟨A0, c0, blk_kept hb hk hne, hg, hr0⟩
theorem IsS113.below {w0 W : World} {g : Nat} {f0 : List Int} {f1 : Int} {f2 : Int} {W1 : World} (h : IsS113 w0 W g f0 f1 f2) (hw : Below W.heap.size W W1) : IsS113 w0 W1 g f0 f1 f2 := h.grown (grown_of_below hw none) (by simp)
theorem IsS113.alloc {w0 W : World} {g : Nat} {f0 : List Int} {f1 : Int} {f2 : Int} (h : IsS113 w0 W g f0 f1 f2) (o : Obj) : IsS113 w0 (W.alloc o) g f0 f1 f2 := h.below (below_alloc (Below.refl _ _) o)
theorem IsS113.drewN {w0 W : World} {g : Nat} {f0 : List Int} {f1 : Int} {f2 : Int} (h : IsS113 w0 W g f0 f1 f2) (m : Nat) : IsS113 w0 (W.drewN m) g f0 f1 f2 := h
theorem IsS113.drew {w0 W : World} {g : Nat} {f0 : List Int} {f1 : Int} {f2 : Int} (h : IsS113 w0 W g f0 f1 f2) : IsS113 w0 W.drew g f0 f1 f2 := h
theorem IsS113.at_ {w0 W : World} {g : Nat} {f0 : List Int} {f1 : Int} {f2 : Int} {w' : World} {m : Nat} (hq : W.drewN m = w') (h : IsS113 w0 W g f0 f1 f2) : IsS113 w0 w' g f0 f1 f2 := by subst hq; exact IsS113.drewN h m
theorem IsS113.apart {w0 W : World} {g : Nat} {f0 : List Int} {f1 : Int} {f2 : Int} {α : Type} {d : Kd α} {e : Nat} {base : Nat} {ok : Nat → Prop} {v : Value} {xs : List α} (h : IsS113 w0 W g f0 f1 f2) (ho : d.R e W base ok v xs) (ht : ∀ q, q ∈ e :: d.E → q ≠ 113) : d.R e W base (fun k => ok k ∧ k ≠ g) v xs := by
 obtain ⟨A0, c0, hb, hg, hr0⟩ := h
 exact Kd.R_types ho hb ht
theorem IsS113.own_ne {w0 W : World} {g : Nat} {f0 : List Int} {f1 : Int} {f2 : Int} {α : Type} {d : Kd α} {e : Nat} {base : Nat} {ok : Nat → Prop} {v : Value} {xs : List α} (h : IsS113 w0 W g f0 f1 f2) (ho : d.R e W base ok v xs) (ht : e ≠ 113) : some g ≠ v.ownBlock := by
 obtain ⟨A0, c0, hb, hg, hr0⟩ := h
 exact Kd.R_ne ho hb ht
theorem IsS113.apartQ {w0 W : World} {g : Nat} {f0 : List Int} {f1 : Int} {f2 : Int} {α : Type} {d : Kd α} {e : Nat} {base : Nat} {ok : Nat → Prop} {v : Value} {xs : List α} (h : IsS113 w0 W g f0 f1 f2) (ho : d.Q e W base ok v xs) (ht : ∀ q, q ∈ e :: d.E → q ≠ 113) : d.Q e W base (fun k => ok k ∧ k ≠ g) v xs := by
 obtain ⟨A0, c0, hb, hg, hr0⟩ := h
 exact Kd.Q_types ho hb ht
theorem IsS113.own_neQ {w0 W : World} {g : Nat} {f0 : List Int} {f1 : Int} {f2 : Int} {α : Type} {d : Kd α} {e : Nat} {base : Nat} {ok : Nat → Prop} {v : Value} {xs : List α} (h : IsS113 w0 W g f0 f1 f2) (ho : d.Q e W base ok v xs) (ht : e ≠ 113) : some g ≠ v.ownBlock := by
 obtain ⟨A0, c0, hb, hg, hr0⟩ := h
 exact Kd.Q_ne ho hb ht
theorem IsS113.apartS {w0 W : World} {g : Nat} {f0 : List Int} {f1 : Int} {f2 : Int} {α : Type} {d : Kd α} {e : Nat} {base : Nat} {ok : Nat → Prop} {v : Value} {xs : List α} (h : IsS113 w0 W g f0 f1 f2) (ho : d.S e W base ok v xs) (ht : ∀ q, q ∈ e :: d.E → q ≠ 113) : d.S e W base (fun k => ok k ∧ k ≠ g) v xs := by
 obtain ⟨A0, c0, hb, hg, hr0⟩ := h
 exact Kd.S_types ho hb ht
theorem IsS113.own_neS {w0 W : World} {g : Nat} {f0 : List Int} {f1 : Int} {f2 : Int} {α : Type} {d : Kd α} {e : Nat} {base : Nat} {ok : Nat → Prop} {v : Value} {xs : List α} (h : IsS113 w0 W g f0 f1 f2) (ho : d.S e W base ok v xs) (ht : e ≠ 113) : some g ≠ v.ownBlock := by
 obtain ⟨A0, c0, hb, hg, hr0⟩ := h
 exact Kd.S_ne ho hb ht
theorem IsS113.lt {w0 W : World} {g : Nat} {f0 : List Int} {f1 : Int} {f2 : Int} (h : IsS113 w0 W g f0 f1 f2) : g < W.heap.size := by
 obtain ⟨A0, c0, hb, hg, hr0⟩ := h
 exact blk_lt hb
theorem IsS113.ge {w0 W : World} {g : Nat} {f0 : List Int} {f1 : Int} {f2 : Int} (h : IsS113 w0 W g f0 f1 f2) : w0.heap.size ≤ g := by
 obtain ⟨A0, c0, hb, hg, hr0⟩ := h
 exact hg
theorem IsS113.ne_blk {w0 W : World} {g : Nat} {f0 : List Int} {f1 : Int} {f2 : Int} {a : Nat} {cs : Array Value} {t : TypeId} {fr : Nat × Nat} (h : IsS113 w0 W g f0 f1 f2) (hb2 : W.heap[a]? = some (.cells cs t fr)) (ht : t ≠ 113) : g ≠ a := by
 obtain ⟨A0, c0, hb, hg, hr0⟩ := h
 rintro rfl
 rw [hb] at hb2
 injection hb2 with hb2
 injection hb2 with _ ht2
 exact ht ht2.symm
theorem IsS113.far {w0 W : World} {g : Nat} {f0 : List Int} {f1 : Int} {f2 : Int} {p : Addr} (h : IsS113 w0 W g f0 f1 f2) (hne : g ≠ p.block) (u : Value) : IsS113 w0 (W.setCell p u) g f0 f1 f2 := by
 obtain ⟨A0, c0, hb, hg, hr0⟩ := h
 exact ⟨A0, c0, blk_far hb hne u, hg, hr0⟩
theorem cellS113_0 {W : World} {g : Nat} {A0 : Option Addr} {c0 : Nat} {f0 : List Int} {f1 : Int} {f2 : Int} (h : W.heap[g]? = some (.cells #[.slice A0 f0.length c0, .int .i64 f1, .int .i64 f2] 113 (0, 0))) : W.cell? ⟨g, 0, none⟩ = some (.slice A0 f0.length c0) := (blk_cell h 0).trans rfl
theorem cellS113_1 {W : World} {g : Nat} {A0 : Option Addr} {c0 : Nat} {f0 : List Int} {f1 : Int} {f2 : Int} (h : W.heap[g]? = some (.cells #[.slice A0 f0.length c0, .int .i64 f1, .int .i64 f2] 113 (0, 0))) : W.cell? ⟨g, 1, none⟩ = some (.int .i64 f1) := (blk_cell h 1).trans rfl
theorem IsS113.set_1 {w0 W : World} {g : Nat} {f0 : List Int} {f1 : Int} {f2 : Int} (h : IsS113 w0 W g f0 f1 f2) (x : Int) : IsS113 w0 (W.setCell ⟨g, 1, none⟩ (.int .i64 x)) g f0 x f2 := by
 obtain ⟨A0, c0, hb, hg, hr0⟩ := h
 exact ⟨A0, c0, by simpa using blk_set hb 1 (.int .i64 x), hg, hr0⟩
theorem cellS113_2 {W : World} {g : Nat} {A0 : Option Addr} {c0 : Nat} {f0 : List Int} {f1 : Int} {f2 : Int} (h : W.heap[g]? = some (.cells #[.slice A0 f0.length c0, .int .i64 f1, .int .i64 f2] 113 (0, 0))) : W.cell? ⟨g, 2, none⟩ = some (.int .i64 f2) := (blk_cell h 2).trans rfl
theorem IsS113.set_2 {w0 W : World} {g : Nat} {f0 : List Int} {f1 : Int} {f2 : Int} (h : IsS113 w0 W g f0 f1 f2) (x : Int) : IsS113 w0 (W.setCell ⟨g, 2, none⟩ (.int .i64 x)) g f0 f1 x := by
 obtain ⟨A0, c0, hb, hg, hr0⟩ := h
 exact ⟨A0, c0, by simpa using blk_set hb 2 (.int .i64 x), hg, hr0⟩
theorem IsS113.new (w0 W : World) (A0 : Option Addr) (c0 : Nat) (f0 : List Int) (f1 : Int) (f2 : Int) (hB : Below w0.heap.size w0 W) (hr0 : Kd.C (Kd.int .u8) w0 A0 f0.length f0) : IsS113 w0 (W.alloc (.cells #[.slice A0 f0.length c0, .int .i64 f1, .int .i64 f2] 113)) W.heap.size f0 f1 f2 := ⟨A0, c0, by simpa using heap_alloc_new W _, hB.size, hr0⟩

/-! ### spec_l1New: function 57 -/
def spec_l1New.l0 : Nat → List Int → Int → Int → Option (List Int × Int × Int)
 | 0, _, _, _ => none
 | k + 1, x0, x3, x4 => if x4 < (x0.length : Int) then (if x4 < 4000 then (if 0 ≤ x4 then (spec_l1New.l0 k x0 (Go.bits .and .i64 (wrap64 ((wrap64 ((wrap64 (x3 * 137)) + (wrap64 (rd x0 x4)))) + 11)) 1073741823) (wrap64 (x4 + 1))) else (none)) else (some (x0, 0, x3))) else (some (x0, 0, x3))
def spec_l1New.f (k : Nat) (l0 : List Int) : Option (List Int × Int × Int) := spec_l1New.l0 k l0 (wrap64 (275275 + (l0.length : Int))) 0
theorem spec_l1New.mono_l : ∀ k, (∀ y0 y1 y2, LeO (spec_l1New.l0 k y0 y1 y2) (spec_l1New.l0 (k + 1) y0 y1 y2))
 | 0 => fun _ _ _ r h => by simp [spec_l1New.l0] at h
 | k + 1 => by
  have ih0 := spec_l1New.mono_l k
  {
  intro y0 y1 y2
  unfold spec_l1New.l0
  exact qL
  }
theorem spec_l1New.mono : ∀ a0 k, LeO (spec_l1New.f k a0) (spec_l1New.f (k + 1) a0) := by
 intro a0 k
 have ih0 := spec_l1New.mono_l k
 unfold spec_l1New.f
 exact qL
theorem spec_l1New.calls (k : Nat) (A0 : Option Addr) (c0 : Nat) (l0 : List Int) (r1 : List Int) (r2 : Int) (r3 : Int) (w0 w : World) (hB : Below w0.heap.size w0 w) (hr0 : Kd.C (Kd.int .u8) w0 A0 l0.length l0) (hc0 : l0.length ≤ c0) (h : spec_l1New.f k l0 = some (r1, r2, r3)) :
  Calls Try.prog 57 #[.slice A0 l0.length c0] w fun e w' => ∃ g_ : Nat, e = .returned (.pointer (some ⟨g_, 0, none⟩)) ∧ IsS113 w0 w' g_ r1 r2 r3 ∧ Below w0.heap.size w0 w' ∧ Below w.heap.size w w' := by
 have hu113 := Try.underlying113
 have HR0 := aM hr0
 have HC0 := aM hc0
 clear hr0 hc0
 have HBW := aM (Below.refl w.heap.size w)
 have HW0 := aM hB.size
 have HB := aM hB
 clear hB
 unfold spec_l1New.f at h
 have H := h
 clear h
 have H' := aM H
 clear H
 go_enter Try.func57, Try.ntmps57
 go_wp2
 go_loopg [3, 4] k (fun kq v3 v4 w' => ∃ (x3_1 : Int) (x4_1 : Int), v3 = .int .i64 x3_1 ∧ v4 = .int .i64 x4_1 ∧ Aside0 (spec_l1New.l0 kq l0 x3_1 x4_1 = some (r1, r2, r3)) ∧ Aside0 (kq ≤ k) ∧ Aside0 (Below w.heap.size w w') ∧ Aside0 (Below w0.heap.size w0 w'))
 case atStart => exact ⟨(wrap64 (275275 + (l0.length : Int))), (0), qz7, qz7, H', ⟨Nat.le_refl _⟩, ⟨qz13⟩, ⟨qz1⟩⟩
 case round =>
 clear H'
 obtain ⟨x3_1, x4_1, rfl, rfl, HA, HK1, HBW, HB⟩ := hrel
 cases gk with
 | zero => exact absurd HA.out (by simp [spec_l1New.l0])
 | succ k1 =>
 have H := HA.out
 clear HA
 simp only [spec_l1New.l0] at H
 replace H := iE_ H
 rcases H with ⟨c2b0, H⟩ | ⟨c2b0, H⟩
 {
 replace H := iE_ H
 rcases H with ⟨c3b0, H⟩ | ⟨c3b0, H⟩
 {
 replace H := iD_ H
 obtain ⟨c4b0, H⟩ := H
 have H' := aM H
 clear H
 have p405 : (0 ≤ (x4_1 : Int)) = True := et_
 have q405 : (x4_1 < (l0.length : Int)) = True := et_
 obtain ⟨ad405, e405, hx405_0⟩ := tC1_ (Kd.at_int HR0.out x4_1 dt_ dt_)
 cases e405
 go_wp2
 go_roundg k1
 case measure => have := HK1.out; omega
 case rel => exact ⟨(Go.bits .and .i64 (wrap64 ((wrap64 ((wrap64 (x3_1 * 137)) + (wrap64 (rd l0 x4_1)))) + 11)) 1073741823), (wrap64 (x4_1 + 1)), qz7, qz7, H', ⟨by have := HK1.out; omega⟩, ⟨qz13⟩, ⟨qz1⟩⟩
 }
 {
 simp only [Option.some.injEq, Prod.mk.injEq] at H
 obtain ⟨rfl, rfl, rfl⟩ := H
 go_wp2_with (first | ((with_reducible refine gate_dst (N := 31) rfl ?_); refine bx_ 31 #[.slice A0 l0.length c0, .int .i64 0, .int .i64 x3_1] 113 ?_; intro gb406 hg w5 hbox hb; replace HB := bS_ hb; have BK406 := aM (hbox); have GW406 := aM (bz_ w hg qz13); have GE406 := aM ((Nat.le_trans HW0.out (by rw [hg]; exact (below_size qz13) : w.heap.size ≤ gb406) : w0.heap.size ≤ gb406)); replace HBW := aM (below_step HBW.out hb); clear hb hbox hg))
 go_ret
 exact ⟨_, rfl, (show IsS113 w0 _ gb406 l0 0 x3_1 from ⟨_, _, by (with_reducible repeat (first | refine blk_drewN ?_ _ | refine blk_drew ?_ | refine blk_alloc ?_ _)); exact BK406.out, GE406.out, HR0.out⟩), qz1, qz13⟩
 }
 }
 {
 simp only [Option.some.injEq, Prod.mk.injEq] at H
 obtain ⟨rfl, rfl, rfl⟩ := H
 go_wp2_with (first | ((with_reducible refine gate_dst (N := 31) rfl ?_); refine bx_ 31 #[.slice A0 l0.length c0, .int .i64 0, .int .i64 x3_1] 113 ?_; intro gb407 hg w6 hbox hb; replace HB := bS_ hb; have BK407 := aM (hbox); have GW407 := aM (bz_ w hg qz13); have GE407 := aM ((Nat.le_trans HW0.out (by rw [hg]; exact (below_size qz13) : w.heap.size ≤ gb407) : w0.heap.size ≤ gb407)); replace HBW := aM (below_step HBW.out hb); clear hb hbox hg))
 go_ret
 exact ⟨_, rfl, (show IsS113 w0 _ gb407 l0 0 x3_1 from ⟨_, _, by (with_reducible repeat (first | refine blk_drewN ?_ _ | refine blk_drew ?_ | refine blk_alloc ?_ _)); exact BK407.out, GE407.out, HR0.out⟩), qz1, qz13⟩
 }
/-! ### spec_l1Byte: function 102 -/
def spec_l1Byte.f (s0_0 : List Int) (s0_1 : Int) (s0_2 : Int) : Option (Int × Int × Int) := if s0_1 < (s0_0.length : Int) then (if 0 ≤ s0_1 then (some (Go.bits .and .i64 (wrap64 ((Go.bits .and .i64 (Go.bits .xor .i64 ((wrap64 ((wrap64 (s0_2 * 6364136223846793005)) + 1442695040888963407)) / 8589934592) ((wrap64 ((wrap64 (s0_2 * 6364136223846793005)) + 1442695040888963407)) / 140737488355328)) 255) + (wrap64 (rd s0_0 s0_1)))) 255, wrap64 (s0_1 + 1), wrap64 ((wrap64 (s0_2 * 6364136223846793005)) + 1442695040888963407))) else (none)) else (some (Go.bits .and .i64 (Go.bits .xor .i64 ((wrap64 ((wrap64 (s0_2 * 6364136223846793005)) + 1442695040888963407)) / 8589934592) ((wrap64 ((wrap64 (s0_2 * 6364136223846793005)) + 1442695040888963407)) / 140737488355328)) 255, s0_1, wrap64 ((wrap64 (s0_2 * 6364136223846793005)) + 1442695040888963407)))
theorem spec_l1Byte.calls (g : Nat) (s0_0 : List Int) (s0_1 : Int) (s0_2 : Int) (r1 : Int) (r2 : Int) (r3 : Int) (w0 w : World) (hI : IsS113 w0 w g s0_0 s0_1 s0_2) (hB : Below w0.heap.size w0 w) (h : spec_l1Byte.f s0_0 s0_1 s0_2 = some (r1, r2, r3)) :
  Calls Try.prog 102 #[.pointer (some ⟨g, 0, none⟩)] w fun e w' => e = .returned (.int .i64 r1) ∧ IsS113 w0 w' g s0_0 r2 r3 ∧ Below w0.heap.size w0 w' ∧ KeepBut w w' g none := by
 have HI0 := aM hI
 have HK := aM (KeepBut.refl w g none)
 have HL := aM hB.size
 clear hI
 have HW0 := aM hB.size
 have HB := aM hB
 clear hB
 unfold spec_l1Byte.f at h
 have H := h
 clear h
 replace H := iE_ H
 rcases H with ⟨c2b0, H⟩ | ⟨c2b0, H⟩
 {
 replace H := iD_ H
 obtain ⟨c3b0, H⟩ := H
 simp only [Option.some.injEq, Prod.mk.injEq] at H
 obtain ⟨rfl, rfl, rfl⟩ := H
 obtain ⟨ASz4_0, cSz4_0, HGz4, hgz4, HSz4_0⟩ := HI0.out
 have hcz4_0 := cellS113_0 HGz4
 have hcz4_1 := cellS113_1 HGz4
 have hcz4_2 := cellS113_2 HGz4
 have hfz4_1 := blk_frozen HGz4 1
 have hfz4_2 := blk_frozen HGz4 2
 clear HGz4 hgz4
 have p408 : (0 ≤ (s0_1 : Int)) = True := et_
 have q408 : (s0_1 < (s0_0.length : Int)) = True := et_
 obtain ⟨ad408, e408, hx408_0⟩ := Kd.at_int HSz4_0 s0_1 dt_ dt_
 cases e408
 have hn408_0 : ad408.block ≠ g := Nat.ne_of_lt (Nat.lt_of_lt_of_le (by have := World.block_lt_of_cell? _ _ hx408_0; first | rwa [add_block] at this | exact this) (IsS113.ge HI0.out))
 replace hx408_0 := cB_ hx408_0
 replace hx408_0 := (cell_far (p := ⟨g, 2, none⟩) (by first | (rw [add_block]; exact hn408_0) | (show (Addr.add _ _).block ≠ _; rw [add_block]; exact hn408_0) | exact hn408_0) (.int .i64 (wrap64 ((wrap64 (s0_2 * 6364136223846793005)) + 1442695040888963407)))).trans hx408_0
 (try have hy408_0 := fun (n_ : Nat) => (show (((w.drewN n_).setCell ⟨g, 2, none⟩ (.int .i64 (wrap64 ((wrap64 (s0_2 * 6364136223846793005)) + 1442695040888963407))))).cell? _ = some _ from hx408_0))
 clear hn408_0
 go_enter Try.func102, Try.ntmps102
 go_wp2
 repeat (go_quiet (fail); try go_wp2)
 go_ret
 exact ⟨qzw, qz4, qz1, qz3⟩
 }
 {
 simp only [Option.some.injEq, Prod.mk.injEq] at H
 obtain ⟨rfl, rfl, rfl⟩ := H
 obtain ⟨ASz5_0, cSz5_0, HGz5, hgz5, HSz5_0⟩ := HI0.out
 have hcz5_0 := cellS113_0 HGz5
 have hcz5_1 := cellS113_1 HGz5
 have hcz5_2 := cellS113_2 HGz5
 have hfz5_1 := blk_frozen HGz5 1
 have hfz5_2 := blk_frozen HGz5 2
 clear HGz5 hgz5
 go_enter Try.func102, Try.ntmps102
 go_wp2
 repeat (go_quiet (fail); try go_wp2)
 go_ret
 exact ⟨qzw, qz4, qz1, qz3⟩
 }
/-! ### spec_l1Below: function 73 -/
def spec_l1Below.f (s0_0 : List Int) (s0_1 : Int) (s0_2 : Int) (a1 : Int) : Option (Int × Int × Int) := if a1 ≤ 0 then (some (0, s0_1, s0_2)) else (if a1 ≤ 256 then ((spec_l1Byte.f s0_0 s0_1 s0_2).bind fun bt409 => (if a1 = 0 then (none) else (some (Int.tmod bt409.1 a1, bt409.2.1, bt409.2.2)))) else ((spec_l1Byte.f s0_0 s0_1 s0_2).bind fun bt412 => ((spec_l1Byte.f s0_0 bt412.2.1 bt412.2.2).bind fun bt415 => ((spec_l1Byte.f s0_0 bt415.2.1 bt415.2.2).bind fun bt418 => (if a1 = 0 then (none) else (some (Int.tmod (wrap64 ((wrap64 ((wrap64 (bt412.1 * 65536)) + (wrap64 (bt415.1 * 256)))) + bt418.1)) a1, bt418.2.1, bt418.2.2)))))))
theorem spec_l1Below.calls (g : Nat) (s0_0 : List Int) (s0_1 : Int) (s0_2 : Int) (a1 : Int) (r1 : Int) (r2 : Int) (r3 : Int) (w0 w : World) (hI : IsS113 w0 w g s0_0 s0_1 s0_2) (hB : Below w0.heap.size w0 w) (h : spec_l1Below.f s0_0 s0_1 s0_2 a1 = some (r1, r2, r3)) :
  Calls Try.prog 73 #[.pointer (some ⟨g, 0, none⟩), .int .i64 a1] w fun e w' => e = .returned (.int .i64 r1) ∧ IsS113 w0 w' g s0_0 r2 r3 ∧ Below w0.heap.size w0 w' ∧ KeepBut w w' g none := by
 have HI0 := aM hI
 have HK := aM (KeepBut.refl w g none)
 have HL := aM hB.size
 clear hI
 have HW0 := aM hB.size
 have HB := aM hB
 clear hB
 unfold spec_l1Below.f at h
 have H := h
 clear h
 replace H := iE_ H
 rcases H with ⟨c3b0, H⟩ | ⟨c3b0, H⟩
 {
 simp only [Option.some.injEq, Prod.mk.injEq] at H
 obtain ⟨rfl, rfl, rfl⟩ := H
 go_enter Try.func73, Try.ntmps73
 go_wp2
 go_ret
 exact ⟨qzw, qz4, qz1, qz3⟩
 }
 {
 replace H := iE_ H
 rcases H with ⟨c4b0, H⟩ | ⟨c4b0, H⟩
 {
 replace H := Option.bind_eq_some_iff.mp H
 obtain ⟨⟨t409, t410, t411⟩, A50, H⟩ := H
 try dsimp only at H
 have A5 := aM A50
 clear A50
 by_cases c6 : a1 = 0
 {
 exact ap_ c6 H
 }
 {
 rw [if_neg c6] at H
 have c6b0 := beq_eq_false_iff_ne.mpr c6
 have c6b1 := bne_iff_ne.mpr c6
 simp only [Option.some.injEq, Prod.mk.injEq] at H
 obtain ⟨rfl, rfl, rfl⟩ := H
 go_enter Try.func73, Try.ntmps73
 go_wp2_with (first | ((with_reducible refine gate_callee (f := 102) rfl ?_); refine goesL_ (some 13) rfl rfl Try.func102 (by kernel_rfl) rfl #[.pointer (some ⟨g, 0, none⟩)] rfl qz2 ?_; (with_reducible refine (spec_l1Byte.calls g s0_0 s0_1 s0_2 t409 t410 t411 w0 _ ?_ ?_ A5.out).mono ?_); exact qz4; exact qz1; rintro e w7 ⟨rfl, hi, hb, hk⟩; refine ⟨_, rfl, ?_⟩; replace HK := aM (KeepBut.trans qz3 hk (.inl rfl)); replace HB := aM (hb); replace HI0 := aM (hi); (try clear hb hk hi)))
 go_ret
 exact ⟨qzw, qz4, qz1, qz3⟩
 }
 }
 {
 replace H := Option.bind_eq_some_iff.mp H
 obtain ⟨⟨t412, t413, t414⟩, A80, H⟩ := H
 try dsimp only at H
 have A8 := aM A80
 clear A80
 replace H := Option.bind_eq_some_iff.mp H
 obtain ⟨⟨t415, t416, t417⟩, A90, H⟩ := H
 try dsimp only at H
 have A9 := aM A90
 clear A90
 replace H := Option.bind_eq_some_iff.mp H
 obtain ⟨⟨t418, t419, t420⟩, A100, H⟩ := H
 try dsimp only at H
 have A10 := aM A100
 clear A100
 by_cases c11 : a1 = 0
 {
 exact ap_ c11 H
 }
 {
 rw [if_neg c11] at H
 have c11b0 := beq_eq_false_iff_ne.mpr c11
 have c11b1 := bne_iff_ne.mpr c11
 simp only [Option.some.injEq, Prod.mk.injEq] at H
 obtain ⟨rfl, rfl, rfl⟩ := H
 go_enter Try.func73, Try.ntmps73
 go_wp2_with (first | ((with_reducible refine gate_callee (f := 102) rfl ?_); refine goesL_ (some 17) rfl rfl Try.func102 (by kernel_rfl) rfl #[.pointer (some ⟨g, 0, none⟩)] rfl qz2 ?_; (with_reducible refine (spec_l1Byte.calls g s0_0 s0_1 s0_2 t412 t413 t414 w0 _ ?_ ?_ A8.out).mono ?_); exact qz4; exact qz1; rintro e w12 ⟨rfl, hi, hb, hk⟩; refine ⟨_, rfl, ?_⟩; replace HK := aM (KeepBut.trans qz3 hk (.inl rfl)); replace HB := aM (hb); replace HI0 := aM (hi); (try clear hb hk hi)) | ((with_reducible refine gate_callee (f := 102) rfl ?_); refine goesL_ (some 19) rfl rfl Try.func102 (by kernel_rfl) rfl #[.pointer (some ⟨g, 0, none⟩)] rfl qz2 ?_; (with_reducible refine (spec_l1Byte.calls g s0_0 t413 t414 t415 t416 t417 w0 _ ?_ ?_ A9.out).mono ?_); exact qz4; exact qz1; rintro e w13 ⟨rfl, hi, hb, hk⟩; refine ⟨_, rfl, ?_⟩; replace HK := aM (KeepBut.trans qz3 hk (.inl rfl)); replace HB := aM (hb); replace HI0 := aM (hi); (try clear hb hk hi)) | ((with_reducible refine gate_callee (f := 102) rfl ?_); refine goesL_ (some 21) rfl rfl Try.func102 (by kernel_rfl) rfl #[.pointer (some ⟨g, 0, none⟩)] rfl qz2 ?_; (with_reducible refine (spec_l1Byte.calls g s0_0 t416 t417 t418 t419 t420 w0 _ ?_ ?_ A10.out).mono ?_); exact qz4; exact qz1; rintro e w14 ⟨rfl, hi, hb, hk⟩; refine ⟨_, rfl, ?_⟩; replace HK := aM (KeepBut.trans qz3 hk (.inl rfl)); replace HB := aM (hb); replace HI0 := aM (hi); (try clear hb hk hi)))
 go_ret
 exact ⟨qzw, qz4, qz1, qz3⟩
 }
 }
 }
/-! ### spec_l1Once: function 80 -/
def spec_l1Once.f (s0_0 : List Int) (s0_1 : Int) (s0_2 : Int) (a1 : Int) : Option (Bool × Int × Int) := (spec_l1Below.f s0_0 s0_1 s0_2 a1).bind fun bt421 => (some ((bt421.1 == 0), bt421.2.1, bt421.2.2))
theorem spec_l1Once.calls (g : Nat) (s0_0 : List Int) (s0_1 : Int) (s0_2 : Int) (a1 : Int) (r1 : Bool) (r2 : Int) (r3 : Int) (w0 w : World) (hI : IsS113 w0 w g s0_0 s0_1 s0_2) (hB : Below w0.heap.size w0 w) (h : spec_l1Once.f s0_0 s0_1 s0_2 a1 = some (r1, r2, r3)) :
  Calls Try.prog 80 #[.pointer (some ⟨g, 0, none⟩), .int .i64 a1] w fun e w' => e = .returned (.bool r1) ∧ IsS113 w0 w' g s0_0 r2 r3 ∧ Below w0.heap.size w0 w' ∧ KeepBut w w' g none := by
 have HI0 := aM hI
 have HK := aM (KeepBut.refl w g none)
 have HL := aM hB.size
 clear hI
 have HW0 := aM hB.size
 have HB := aM hB
 clear hB
 unfold spec_l1Once.f at h
 have H := h
 clear h
 replace H := Option.bind_eq_some_iff.mp H
 obtain ⟨⟨t421, t422, t423⟩, A30, H⟩ := H
 try dsimp only at H
 have A3 := aM A30
 clear A30
 simp only [Option.some.injEq, Prod.mk.injEq] at H
 obtain ⟨rfl, rfl, rfl⟩ := H
 go_enter Try.func80, Try.ntmps80
 go_wp2_with (first | ((with_reducible refine gate_callee (f := 73) rfl ?_); refine goesL_ (some 7) rfl rfl Try.func73 (by kernel_rfl) rfl #[.pointer (some ⟨g, 0, none⟩), .int .i64 a1] rfl qz2 ?_; (with_reducible refine (spec_l1Below.calls g s0_0 s0_1 s0_2 a1 t421 t422 t423 w0 _ ?_ ?_ A3.out).mono ?_); exact qz4; exact qz1; rintro e w4 ⟨rfl, hi, hb, hk⟩; refine ⟨_, rfl, ?_⟩; replace HK := aM (KeepBut.trans qz3 hk (.inl rfl)); replace HB := aM (hb); replace HI0 := aM (hi); (try clear hb hk hi)))
 go_ret
 exact ⟨qzw, qz4, qz1, qz3⟩

/-! ### spec_l1Int: function 81 -/
def spec_l1Int.f (s0_0 : List Int) (s0_1 : Int) (s0_2 : Int) (l1 : List Int) : Option (Int × Int × Int) := (spec_l1Below.f s0_0 s0_1 s0_2 (l1.length : Int)).bind fun bt424 => (if 0 ≤ bt424.1 then (if bt424.1 < (l1.length : Int) then (some (rd l1 bt424.1, bt424.2.1, bt424.2.2)) else (none)) else (none))
theorem spec_l1Int.calls (g : Nat) (s0_0 : List Int) (s0_1 : Int) (s0_2 : Int) (A1 : Option Addr) (c1 : Nat) (l1 : List Int) (r1 : Int) (r2 : Int) (r3 : Int) (w0 w : World) (hI : IsS113 w0 w g s0_0 s0_1 s0_2) (hB : Below w0.heap.size w0 w) (hr1 : Kd.C (Kd.int .i64) w A1 l1.length l1) (hc1 : l1.length ≤ c1) (hf1 : ∀ ad, A1 = some ad → 0 < l1.length → ad.block ≠ g) (h : spec_l1Int.f s0_0 s0_1 s0_2 l1 = some (r1, r2, r3)) :
  Calls Try.prog 81 #[.pointer (some ⟨g, 0, none⟩), .slice A1 l1.length c1] w fun e w' => e = .returned (.int .i64 r1) ∧ IsS113 w0 w' g s0_0 r2 r3 ∧ Below w0.heap.size w0 w' ∧ KeepBut w w' g none := by
 have HR1 := aM hr1
 have HC1 := aM hc1
 clear hr1 hc1
 have HI0 := aM hI
 have HK := aM (KeepBut.refl w g none)
 have HL := aM hB.size
 clear hI
 have HW0 := aM hB.size
 have HB := aM hB
 clear hB
 unfold spec_l1Int.f at h
 have H := h
 clear h
 replace H := Option.bind_eq_some_iff.mp H
 obtain ⟨⟨t424, t425, t426⟩, A30, H⟩ := H
 try dsimp only at H
 have A3 := aM A30
 clear A30
 replace H := iD_ H
 obtain ⟨c4b0, H⟩ := H
 replace H := iD_ H
 obtain ⟨c5b0, H⟩ := H
 simp only [Option.some.injEq, Prod.mk.injEq] at H
 obtain ⟨rfl, rfl, rfl⟩ := H
 go_enter Try.func81, Try.ntmps81
 go_wp2_with (first | ((with_reducible refine gate_callee (f := 73) rfl ?_); refine goesL_ (some 9) rfl rfl Try.func73 (by kernel_rfl) rfl #[.pointer (some ⟨g, 0, none⟩), .int .i64 (l1.length : Int)] rfl qz2 ?_; (with_reducible refine (spec_l1Below.calls g s0_0 s0_1 s0_2 (l1.length : Int) t424 t425 t426 w0 _ ?_ ?_ A3.out).mono ?_); exact qz4; exact qz1; rintro e w6 ⟨rfl, hi, hb, hk⟩; refine ⟨_, rfl, ?_⟩; replace HK := aM (KeepBut.trans qz3 hk (.inl rfl)); replace HB := aM (hb); replace HI0 := aM (hi); (try clear hb hk hi); have p427 : 0 ≤ (t424 : Int) := dt_; have q427 : t424 < (l1.length : Int) := dt_; obtain ⟨ad427, e427, hx427_0⟩ := Kd.at_int HR1.out t424 p427 q427; cases e427; replace hx427_0 := keep_cell HK.out hx427_0 (by first | (rw [add_block]; exact hf1 _ rfl (by omega)) | exact hf1 _ rfl (by omega) | exact hf1 ad427 rfl (by omega)); replace p427 := eq_true p427; replace q427 := eq_true q427))
 go_ret
 exact ⟨qzw, qz4, qz1, qz3⟩
/-! ### spec_l1Split: function 126 -/
def spec_l1Split.l0 : Nat → ByteArray → Int → List ByteArray → Int → Int → Option (List ByteArray)
 | 0, _, _, _, _, _ => none
 | k + 1, x0, x1, x5, x6, x7 => if x7 ≤ (x0.size : Int) then (if x7 = (x0.size : Int) then (if 0 ≤ x6 then (if x6 ≤ x7 then (if x5.length < 8796093022208 then (spec_l1Split.l0 k x0 x1 (x5 ++ [x0.extract (x6 : Int).toNat (x7 : Int).toNat]) (wrap64 (x7 + 1)) (wrap64 (x7 + 1))) else (none)) else (none)) else (none)) else (if 0 ≤ x7 then (if x7 < (x0.size : Int) then (if (bt x0 x7) = x1 then (if 0 ≤ x6 then (if x6 ≤ x7 then (if x5.length < 8796093022208 then (spec_l1Split.l0 k x0 x1 (x5 ++ [x0.extract (x6 : Int).toNat (x7 : Int).toNat]) (wrap64 (x7 + 1)) (wrap64 (x7 + 1))) else (none)) else (none)) else (none)) else (spec_l1Split.l0 k x0 x1 x5 x6 (wrap64 (x7 + 1)))) else (none)) else (none))) else (some x5)
def spec_l1Split.f (k : Nat) (a0 : ByteArray) (a1 : Int) : Option (List ByteArray) := spec_l1Split.l0 k a0 a1 (([] : List ByteArray)) 0 0
theorem spec_l1Split.mono_l : ∀ k, (∀ y0 y1 y2 y3 y4, LeO (spec_l1Split.l0 k y0 y1 y2 y3 y4) (spec_l1Split.l0 (k + 1) y0 y1 y2 y3 y4))
 | 0 => fun _ _ _ _ _ r h => by simp [spec_l1Split.l0] at h
 | k + 1 => by
  have ih0 := spec_l1Split.mono_l k
  {
  intro y0 y1 y2 y3 y4
  unfold spec_l1Split.l0
  exact qL
  }
theorem spec_l1Split.mono : ∀ a0 a1 k, LeO (spec_l1Split.f k a0 a1) (spec_l1Split.f (k + 1) a0 a1) := by
 intro a0 a1 k
 have ih0 := spec_l1Split.mono_l k
 unfold spec_l1Split.f
 exact qL
theorem spec_l1Split.calls (k : Nat) (a0 : ByteArray) (a1 : Int) (r : List ByteArray) (w : World) (h : spec_l1Split.f k a0 a1 = some r) :
  Calls Try.prog 126 #[.string a0, .int .u8 a1] w fun e w' => ∃ v0_ : Value, e = .returned (v0_) ∧ Kd.R Kd.string 9 w' w.heap.size (fun _ => True) v0_ r ∧ Below w.heap.size w w' := by
 have HB := aM (Below.refl w.heap.size w)
 unfold spec_l1Split.f at h
 have H := h
 clear h
 obtain ⟨y428, hy428⟩ : ∃ y_ : List ByteArray, y_ = (([] : List ByteArray)) := ⟨_, rfl⟩
 replace H : (spec_l1Split.l0 k a0 a1 y428 0 0) = some r := by first | (rw [hy428]; exact H) | exact H
 have Ny428 := aM hy428
 clear hy428
 have H' := aM H
 clear H
 go_enter Try.func126, Try.ntmps126
 go_wp2_with (first | ((with_reducible refine gate_dst (N := 8) rfl ?_); refine Kd.R_lit Kd.string _ 9 ?hg (N := 8) ?hd (xs := ([] : List ByteArray)) (inner := []) (ok := fun _ => True) (okp := fun _ => True) ?hr ?hp (fun _ hk => hk) trivial (Below.refl _ _) (Nat.le_refl _) (by simp) ?_; (case hd => rfl); (case hg => rfl); (case hr => exact qz9); (case hp => exact (Reps.none _ _)); intro v429 w3 ho4 hb hg_ hnew_; clear hg_ hnew_; (first | rw [← Ny428.out] at ho4 | (simp only [Int.reduceToNat] at ho4; rw [← Ny428.out] at ho4)); have HO430 := aM (Kd.R_lower ho4 (below_size qz1)); replace HB := bS_ hb; clear hb ho4))
 go_loopg [5, 6, 7] k (fun kq v5 v6 v7 w' => ∃ (x5_1 : List ByteArray) (x6_1 : Int) (x7_1 : Int), v6 = .int .i64 x6_1 ∧ v7 = .int .i64 x7_1 ∧ Aside0 (spec_l1Split.l0 kq a0 a1 x5_1 x6_1 x7_1 = some r) ∧ Aside0 (kq ≤ k) ∧ Aside0 (Kd.R Kd.string 9 w' w.heap.size (fun _ => True) v5 x5_1) ∧ Aside0 (Below w.heap.size w w'))
 case atStart => exact ⟨(y428), (0), (0), qz7, qz7, H', ⟨Nat.le_refl _⟩, ⟨rr_ HO430.out⟩, ⟨qz1⟩⟩
 case round =>
 clear H'
 obtain ⟨x5_1, x6_1, x7_1, rfl, rfl, HA, HK1, HO_5, HB⟩ := hrel
 cases gk with
 | zero => exact absurd HA.out (by simp [spec_l1Split.l0])
 | succ k1 =>
 have H := HA.out
 clear HA
 simp only [spec_l1Split.l0] at H
 replace H := iE_ H
 rcases H with ⟨c5b0, H⟩ | ⟨c5b0, H⟩
 {
 replace H := iQ_ H
 rcases H with ⟨c6b0, c6b1, H⟩ | ⟨c6, c6b0, c6b1, H⟩
 {
 replace H := iN_ H
 obtain ⟨c7, H⟩ := H
 have c7b0 := eq_true c7
 have c7b1 := decide_eq_true c7
 clear c7
 replace H := iN_ H
 obtain ⟨c8, H⟩ := H
 have c8b0 := eq_true c8
 have c8b1 := decide_eq_true c8
 clear c8
 have c9b0 := eq_true (dt_ : x7_1 ≤ (a0.size : Int))
 replace H := iN_ H
 obtain ⟨c10, H⟩ := H
 have LMc10 := aM c10
 clear c10
 obtain ⟨y431, hy431⟩ : ∃ y_ : List ByteArray, y_ = (x5_1 ++ [a0.extract (x6_1 : Int).toNat (x7_1 : Int).toNat]) := ⟨_, rfl⟩
 replace H : (spec_l1Split.l0 k1 a0 a1 y431 (wrap64 (x7_1 + 1)) (wrap64 (x7_1 + 1))) = some r := by first | (rw [hy431]; exact H) | exact H
 have Ny431 := aM hy431
 clear hy431
 have H' := aM H
 clear H
 go_wp2_with (first | ((with_reducible refine gate_builtin (b := .append) (xs := #[.tmp 26, .tmp 31]) rfl ?_); at_builtin; refine Kd.R_append Kd.string (w0 := w) w.heap.size rfl (.tmp 26) (.tmp 31) 127 9 (.string ⟨#[]⟩) 16 rfl Try.underlying127 info9 rfl (by decide) (by omega) u5 x5_1 (a0.extract (x6_1 : Int).toNat (x7_1 : Int).toNat) [.string (a0.extract (x6_1 : Int).toNat (x7_1 : Int).toNat)] (fun _ => True) (fun _ => False) rfl rfl ?aP (fun _ hk => hk.elim) ?aF ?aO ?aB ?aS ?aL ?_; (case aP => exact rfl); (case aB => exact qz1); (case aF => exact qz21); (case aO => exact (rr_ HO_5.out)); (case aS => exact qz32); (case aL => have := LMc10.out; omega); intro v432 w11 ho hb hg hat; rw [← Ny431.out] at ho; replace HB := aM (hb); have HO433 := aM (ho); clear HO_5; clear ho hb hg hat))
 go_roundg k1
 case measure => have := HK1.out; omega
 case rel => exact ⟨(y431), (wrap64 (x7_1 + 1)), (wrap64 (x7_1 + 1)), qz7, qz7, H', ⟨by have := HK1.out; omega⟩, ⟨rm_ HO433.out⟩, ⟨qz1⟩⟩
 }
 {
 replace H := iD_ H
 obtain ⟨c12b0, H⟩ := H
 replace H := iD_ H
 obtain ⟨c13b0, H⟩ := H
 replace H := iQ_ H
 rcases H with ⟨c15b0, c15b1, H⟩ | ⟨c15, c15b0, c15b1, H⟩
 {
 replace H := iN_ H
 obtain ⟨c16, H⟩ := H
 have c16b0 := eq_true c16
 have c16b1 := decide_eq_true c16
 clear c16
 replace H := iN_ H
 obtain ⟨c17, H⟩ := H
 have c17b0 := eq_true c17
 have c17b1 := decide_eq_true c17
 clear c17
 have c18b0 := eq_true (dt_ : x7_1 ≤ (a0.size : Int))
 replace H := iN_ H
 obtain ⟨c19, H⟩ := H
 have LMc19 := aM c19
 clear c19
 obtain ⟨y434, hy434⟩ : ∃ y_ : List ByteArray, y_ = (x5_1 ++ [a0.extract (x6_1 : Int).toNat (x7_1 : Int).toNat]) := ⟨_, rfl⟩
 replace H : (spec_l1Split.l0 k1 a0 a1 y434 (wrap64 (x7_1 + 1)) (wrap64 (x7_1 + 1))) = some r := by first | (rw [hy434]; exact H) | exact H
 have Ny434 := aM hy434
 clear hy434
 have H' := aM H
 clear H
 have p14 : 0 ≤ (x7_1 : Int) := dt_
 have q14 : x7_1 < (a0.size : Int) := dt_
 have hx14 := bt_at a0 x7_1
 replace p14 := eq_true p14
 replace q14 := eq_true q14
 go_wp2_with (first | ((with_reducible refine gate_builtin (b := .append) (xs := #[.tmp 26, .tmp 31]) rfl ?_); at_builtin; refine Kd.R_append Kd.string (w0 := w) w.heap.size rfl (.tmp 26) (.tmp 31) 127 9 (.string ⟨#[]⟩) 16 rfl Try.underlying127 info9 rfl (by decide) (by omega) u5 x5_1 (a0.extract (x6_1 : Int).toNat (x7_1 : Int).toNat) [.string (a0.extract (x6_1 : Int).toNat (x7_1 : Int).toNat)] (fun _ => True) (fun _ => False) rfl rfl ?aP (fun _ hk => hk.elim) ?aF ?aO ?aB ?aS ?aL ?_; (case aP => exact rfl); (case aB => exact qz1); (case aF => exact qz21); (case aO => exact (rr_ HO_5.out)); (case aS => exact qz32); (case aL => have := LMc19.out; omega); intro v435 w20 ho hb hg hat; rw [← Ny434.out] at ho; replace HB := aM (hb); have HO436 := aM (ho); clear HO_5; clear ho hb hg hat))
 go_roundg k1
 case measure => have := HK1.out; omega
 case rel => exact ⟨(y434), (wrap64 (x7_1 + 1)), (wrap64 (x7_1 + 1)), qz7, qz7, H', ⟨by have := HK1.out; omega⟩, ⟨rm_ HO436.out⟩, ⟨qz1⟩⟩
 }
 {
 have H' := aM H
 clear H
 have p14 : 0 ≤ (x7_1 : Int) := dt_
 have q14 : x7_1 < (a0.size : Int) := dt_
 have hx14 := bt_at a0 x7_1
 replace p14 := eq_true p14
 replace q14 := eq_true q14
 go_wp2
 go_roundg k1
 case measure => have := HK1.out; omega
 case rel => exact ⟨(x5_1), (x6_1), (wrap64 (x7_1 + 1)), qz7, qz7, H', ⟨by have := HK1.out; omega⟩, ⟨rm_ HO_5.out⟩, ⟨qz1⟩⟩
 }
 }
 }
 {
 obtain rfl := Option.some.inj H
 go_wp2
 go_ret
 exact ⟨_, qzw, by (with_reducible repeat (first | apply Kd.R_alloc | apply Kd.R_drewN | apply Kd.R_drew)); exact HO_5.out, qz1⟩
 }
/-! ### spec_l1Mark: function 127 -/
def spec_l1Mark.l0 : Nat → Int → Int → Option (Int)
 | 0, _, _ => none
 | k + 1, x0, x3 => if x3 < 5 then (if 0 ≤ x3 then (if (bt (⟨#[35, 46, 112, 115, 99]⟩ : ByteArray) x3) = x0 then (some x3) else (spec_l1Mark.l0 k x0 (wrap64 (x3 + 1)))) else (none)) else (some (-1))
def spec_l1Mark.f (k : Nat) (a0 : Int) : Option (Int) := spec_l1Mark.l0 k a0 0
theorem spec_l1Mark.mono_l : ∀ k, (∀ y0 y1, LeO (spec_l1Mark.l0 k y0 y1) (spec_l1Mark.l0 (k + 1) y0 y1))
 | 0 => fun _ _ r h => by simp [spec_l1Mark.l0] at h
 | k + 1 => by
  have ih0 := spec_l1Mark.mono_l k
  {
  intro y0 y1
  unfold spec_l1Mark.l0
  exact qL
  }
theorem spec_l1Mark.mono : ∀ a0 k, LeO (spec_l1Mark.f k a0) (spec_l1Mark.f (k + 1) a0) := by
 intro a0 k
 have ih0 := spec_l1Mark.mono_l k
 unfold spec_l1Mark.f
 exact qL
theorem spec_l1Mark.calls (k : Nat) (a0 : Int) (r : Int) (w : World) (h : spec_l1Mark.f k a0 = some r) :
  Calls Try.prog 127 #[.int .u8 a0] w fun e w' => e = .returned (.int .i64 r) ∧ Drawn0 w w' := by
 have H : (spec_l1Mark.l0 k a0 0) = some r := h
 clear h
 have H' := aM H
 clear H
 go_enter Try.func127, Try.ntmps127
 go_wp2
 go_loopg [3] k (fun kq v3 w' => ∃ (x3_1 : Int), v3 = .int .i64 x3_1 ∧ Aside0 (spec_l1Mark.l0 kq a0 x3_1 = some r) ∧ Aside0 (kq ≤ k) ∧ Drawn0 w w')
 case atStart => exact ⟨(0), qz7, H', ⟨Nat.le_refl _⟩, by repeat (first | exact Drawn0.refl _ | apply Drawn0.step)⟩
 case round =>
 clear H'
 obtain ⟨x3_1, rfl, HA, HK1, ⟨m1, rfl⟩⟩ := hrel
 cases gk with
 | zero => exact absurd HA.out (by simp [spec_l1Mark.l0])
 | succ k1 =>
 have H := HA.out
 clear HA
 simp only [spec_l1Mark.l0] at H
 replace H := iE_ H
 rcases H with ⟨c2b0, H⟩ | ⟨c2b0, H⟩
 {
 replace H := iD_ H
 obtain ⟨c3b0, H⟩ := H
 replace H := iQ_ H
 rcases H with ⟨c5b0, c5b1, H⟩ | ⟨c5, c5b0, c5b1, H⟩
 {
 obtain rfl := Option.some.inj H
 have p4 : 0 ≤ (x3_1 : Int) := dt_
 have q4 : x3_1 < (5 : Int) := dt_
 have hx4 := bt_at (⟨#[35, 46, 112, 115, 99]⟩ : ByteArray) x3_1
 replace p4 := eq_true p4
 replace q4 := eq_true q4
 go_wp2
 go_ret
 exact ⟨by first | rfl | (simp; done) | (simp [*]; done), by repeat (first | exact Drawn0.refl _ | apply Drawn0.step)⟩
 }
 {
 have H' := aM H
 clear H
 have p4 : 0 ≤ (x3_1 : Int) := dt_
 have q4 : x3_1 < (5 : Int) := dt_
 have hx4 := bt_at (⟨#[35, 46, 112, 115, 99]⟩ : ByteArray) x3_1
 replace p4 := eq_true p4
 replace q4 := eq_true q4
 go_wp2
 go_roundg k1
 case measure => have := HK1.out; omega
 case rel => exact ⟨(wrap64 (x3_1 + 1)), qz7, H', ⟨by have := HK1.out; omega⟩, by repeat (first | exact Drawn0.refl _ | apply Drawn0.step)⟩
 }
 }
 {
 obtain rfl := Option.some.inj H
 go_wp2
 go_ret
 exact ⟨by first | rfl | (simp; done) | (simp [*]; done), by repeat (first | exact Drawn0.refl _ | apply Drawn0.step)⟩
 }
/-! ### spec_ParseFloor: function 106 -/
mutual
def spec_ParseFloor.l0 : Nat → List ByteArray → Int → Int → Int → List Int → Option (Int × Int × List Int × Int)
 | 0, _, _, _, _, _ => none
 | k + 1, x4, x6, x443000, x443001, x443002 => if x6 < (x4.length : Int) then (if x6 = (wrap64 ((x4.length : Int) - 1)) then (if 0 ≤ x6 then (if (rdOf ByteArray.empty x4 x6).toList = ([] : List UInt8) then (spec_ParseFloor.j1 k x4 x6 (x6 == (wrap64 ((x4.length : Int) - 1))) (decide (x6 > 0)) x443000 x443001 x443002) else (spec_ParseFloor.j1 k x4 x6 (x6 == (wrap64 ((x4.length : Int) - 1))) false x443000 x443001 x443002)) else (none)) else (spec_ParseFloor.j1 k x4 x6 (x6 == (wrap64 ((x4.length : Int) - 1))) false x443000 x443001 x443002)) else (some (x443000, x443001, x443002, (-1)))
def spec_ParseFloor.j1 : Nat → List ByteArray → Int → Bool → Bool → Int → Int → List Int → Option (Int × Int × List Int × Int)
 | 0, _, _, _, _, _, _, _ => none
 | k + 1, x4, x6, x7, x39, x443000, x443001, x443002 => if x39 = true then (some (x443000, x443001, x443002, (-1))) else (if x7 = true then (spec_ParseFloor.j2 k x4 x6 true x443000 x443001 x443002) else (if x6 = 10 then (spec_ParseFloor.j2 k x4 x6 true x443000 x443001 x443002) else (if 0 ≤ x6 then (if x6 < (x4.length : Int) then ((spec_l1In.f ((rdOf ByteArray.empty x4 x6).size : Int) 1 10).bind fun t445 => (if t445 = true then (spec_ParseFloor.j2 k x4 x6 (((rdOf ByteArray.empty x4 x6).size : Int) != x443000) x443000 x443001 x443002) else (spec_ParseFloor.j2 k x4 x6 true x443000 x443001 x443002))) else (none)) else (none))))
def spec_ParseFloor.j2 : Nat → List ByteArray → Int → Bool → Int → Int → List Int → Option (Int × Int × List Int × Int)
 | 0, _, _, _, _, _, _ => none
 | k + 1, x4, x6, x63, x443000, x443001, x443002 => if x63 = true then (some (0, 0, ([] : List Int), x6)) else (spec_ParseFloor.l1 k x4 x6 0 x443000 x443001 x443002)
def spec_ParseFloor.l1 : Nat → List ByteArray → Int → Int → Int → Int → List Int → Option (Int × Int × List Int × Int)
 | 0, _, _, _, _, _, _ => none
 | k + 1, x4, x6, x8, x443000, x443001, x443002 => if 0 ≤ x6 then (if x6 < (x4.length : Int) then (if x8 < ((rdOf ByteArray.empty x4 x6).size : Int) then (if 0 ≤ x8 then ((spec_l1Mark.f k (bt (rdOf ByteArray.empty x4 x6) x8)).bind fun t449 => (if t449 < 0 then (some (0, 0, ([] : List Int), x6)) else (if x443002.length < 17592186044416 then (spec_ParseFloor.l1 k x4 x6 (wrap64 (x8 + 1)) x443000 x443001 (x443002 ++ [t449])) else (none)))) else (none)) else (spec_ParseFloor.l0 k x4 (wrap64 (x6 + 1)) x443000 (wrap64 (x443001 + 1)) x443002)) else (none)) else (none)
end
def spec_ParseFloor.f (k : Nat) (a0 : ByteArray) : Option (Int × Int × List Int × Int) := (spec_l1Split.f k a0 10).bind fun t438 => (if 0 < (t438.length : Int) then (spec_ParseFloor.l0 k t438 0 ((rdOf ByteArray.empty t438 0).size : Int) 0 ([] : List Int)) else (none))
theorem spec_ParseFloor.mono_l : ∀ k, (∀ y0 y1 y2 y3 y4, LeO (spec_ParseFloor.l0 k y0 y1 y2 y3 y4) (spec_ParseFloor.l0 (k + 1) y0 y1 y2 y3 y4)) ∧ (∀ y0 y1 y2 y3 y4 y5 y6, LeO (spec_ParseFloor.j1 k y0 y1 y2 y3 y4 y5 y6) (spec_ParseFloor.j1 (k + 1) y0 y1 y2 y3 y4 y5 y6)) ∧ (∀ y0 y1 y2 y3 y4 y5, LeO (spec_ParseFloor.j2 k y0 y1 y2 y3 y4 y5) (spec_ParseFloor.j2 (k + 1) y0 y1 y2 y3 y4 y5)) ∧ (∀ y0 y1 y2 y3 y4 y5, LeO (spec_ParseFloor.l1 k y0 y1 y2 y3 y4 y5) (spec_ParseFloor.l1 (k + 1) y0 y1 y2 y3 y4 y5))
 | 0 => ⟨fun _ _ _ _ _ r h => by simp [spec_ParseFloor.l0] at h, fun _ _ _ _ _ _ _ r h => by simp [spec_ParseFloor.j1] at h, fun _ _ _ _ _ _ r h => by simp [spec_ParseFloor.j2] at h, fun _ _ _ _ _ _ r h => by simp [spec_ParseFloor.l1] at h⟩
 | k + 1 => by
  obtain ⟨ih0, ih1, ih2, ih3⟩ := spec_ParseFloor.mono_l k
  refine ⟨?_, ?_, ?_, ?_⟩
  {
  intro y0 y1 y2 y3 y4
  unfold spec_ParseFloor.l0
  have j0 := @spec_l1Mark.mono
  have j1 := @spec_l1Split.mono
  exact qL
  }
  {
  intro y0 y1 y2 y3 y4 y5 y6
  unfold spec_ParseFloor.j1
  have j0 := @spec_l1Mark.mono
  have j1 := @spec_l1Split.mono
  exact qL
  }
  {
  intro y0 y1 y2 y3 y4 y5
  unfold spec_ParseFloor.j2
  have j0 := @spec_l1Mark.mono
  have j1 := @spec_l1Split.mono
  exact qL
  }
  {
  intro y0 y1 y2 y3 y4 y5
  unfold spec_ParseFloor.l1
  have j0 := @spec_l1Mark.mono
  have j1 := @spec_l1Split.mono
  exact qL
  }
theorem spec_ParseFloor.mono : ∀ a0 k, LeO (spec_ParseFloor.f k a0) (spec_ParseFloor.f (k + 1) a0) := by
 intro a0 k
 obtain ⟨ih0, ih1, ih2, ih3⟩ := spec_ParseFloor.mono_l k
 unfold spec_ParseFloor.f
 have j0 := @spec_l1Mark.mono
 have j1 := @spec_l1Split.mono
 exact qL
theorem spec_ParseFloor.calls (k : Nat) (a0 : ByteArray) (r1 : Int) (r2 : Int) (r3 : List Int) (r4 : Int) (w : World) (h : spec_ParseFloor.f k a0 = some (r1, r2, r3, r4)) :
  Calls Try.prog 106 #[.string a0] w fun e w' => ∃ v2_ : Value, e = .returned (.tuple #[.agg #[.int .i64 r1, .int .i64 r2, v2_], .int .i64 r4]) ∧ Kd.R (Kd.int .i64) 3 w' w.heap.size (fun _ => True) v2_ r3 ∧ Below w.heap.size w w' := by
 have hu43 := Try.underlying43
 have HB := aM (Below.refl w.heap.size w)
 unfold spec_ParseFloor.f at h
 have H := h
 clear h
 replace H := Option.bind_eq_some_iff.mp H
 obtain ⟨t438, A20, H⟩ := H
 have A2 := aM A20
 clear A20
 replace H := iN_ H
 obtain ⟨c3, H⟩ := H
 have c3b0 := decide_eq_true c3
 have c3b1 : decide (0 < t438.length) = true := decide_eq_true (by omega)
 clear c3
 have H' := aM H
 clear H
 go_enter Try.func106, Try.ntmps106
 go_wp2_with (first | ((with_reducible refine gate_dst (N := 2) rfl ?_); (try (refine gate_guard (by rfl) ?_; dsimp only)); refine bx_ 2 #[.int .i64 0, .int .i64 0, .slice none 0 0] 43 ?_; intro gb437 hg w4 hbox hb; have BK437 := aM (hbox); have GW437 := aM (bz_ w hg qz1); have GE437 := GW437; replace HB := bS_ hb; clear hb hbox hg) | (go_at_call 126; (with_reducible refine (spec_l1Split.calls k a0 10 t438 _ A2.out).mono ?_); rintro e w5 ⟨v439, rfl, ho0, hb⟩; have HO440 := aM (Kd.R_lower ho0 (below_size qz1)); replace BK437 := bB_ BK437 hb; replace HB := bS_ hb; (try clear hb ho0); obtain ⟨Ao6, co6, eo6⟩ := Kd.R_slice HO440.out; subst eo6; have p441 : 0 ≤ (0 : Int) := (by omega); have q441 : 0 < (t438.length : Int) := dt_; obtain ⟨ad441, e441, hx441_0⟩ := Kd.at_string (Kd.R_reads' HO440.out).2.2 0 p441 q441; cases e441; have qi441 : (0 < t438.length) = True := eq_true (by omega); (try rw [show ((0 : Int)).toNat = 0 from rfl] at hx441_0); (try rw [Addr.add_zero'] at hx441_0); replace p441 := eq_true p441; replace q441 := eq_true q441) | ((with_reducible refine gate_dst (N := 5) rfl ?_); (try (refine gate_guard (by rfl) ?_; dsimp only)); refine bx_ 5 #[.int .i64 0, .int .i64 0, .slice none 0 0] 43 ?_; intro gb442 hg w7 hbox hb; replace HO440 := aM (Kd.R_below (rr_ HO440.out) hb); have BK442 := aM (hbox); have GW442 := aM (bz_ w hg qz1); have GE442 := GW442; replace HB := bS_ hb; obtain ⟨NB437_442, NB442_437⟩ := nb_ hg (bk_ BK437.out); replace BK437 := bB_ BK437 hb; clear hb hbox hg; have hnb8 := NB442_437.out; have hnc8 := NB437_442.out; obtain ⟨hcz9_0, hcz9_1, hcz9_2, hfz9_0, hfz9_1, hfz9_2⟩ := b6_ BK442.out) | go_quiet (first | (go_at_call 126; (with_reducible refine (spec_l1Split.calls k a0 10 t438 _ A2.out).mono ?_); rintro e w5 ⟨v439, rfl, ho0, hb⟩; have HO440 := aM (Kd.R_lower ho0 (below_size qz1)); replace BK437 := bB_ BK437 hb; replace HB := bS_ hb; (try clear hb ho0); obtain ⟨Ao6, co6, eo6⟩ := Kd.R_slice HO440.out; subst eo6; have p441 : 0 ≤ (0 : Int) := (by omega); have q441 : 0 < (t438.length : Int) := dt_; obtain ⟨ad441, e441, hx441_0⟩ := Kd.at_string (Kd.R_reads' HO440.out).2.2 0 p441 q441; cases e441; have qi441 : (0 < t438.length) = True := eq_true (by omega); (try rw [show ((0 : Int)).toNat = 0 from rfl] at hx441_0); (try rw [Addr.add_zero'] at hx441_0); replace p441 := eq_true p441; replace q441 := eq_true q441)))
 go_loopg [6] k (fun kq v6 w' => ∃ (x6_1 : Int) (x438000_1 : Int) (x438001_1 : Int) (x443001_1 : Int) (x443002_1 : List Int) (u443002 : Value), v6 = .int .i64 x6_1 ∧ Aside0 (spec_ParseFloor.l0 kq t438 x6_1 ((rdOf ByteArray.empty t438 0).size : Int) x443001_1 x443002_1 = some (r1, r2, r3, r4)) ∧ Aside0 (kq ≤ k) ∧ Aside0 (Kd.R Kd.string 9 w' w.heap.size (fun _ => True) (.slice (some ad441) t438.length co6) t438) ∧ Aside0 (Kd.R (Kd.int .i64) 3 w' w.heap.size (fun _ => True) u443002 x443002_1) ∧ Aside0 (w'.heap[gb437]? = some (.cells #[.int .i64 x438000_1, .int .i64 x438001_1, (.slice none 0 0)] 43 (0, 0))) ∧ Aside0 (w'.heap[gb442]? = some (.cells #[.int .i64 ((rdOf ByteArray.empty t438 0).size : Int), .int .i64 x443001_1, u443002] 43 (0, 0))) ∧ Aside0 (Below w.heap.size w w'))
 case atStart => exact ⟨(0), (0), (0), (0), (([] : List Int)), (.slice none 0 0), qz7, H', ⟨Nat.le_refl _⟩, ⟨by (with_reducible repeat (first | apply Kd.R_alloc | apply Kd.R_drewN | apply Kd.R_drew)); exact Kd.R_mono (Kd.R_far (p := ⟨gb442, 2, none⟩) (Kd.R_far (p := ⟨gb442, 1, none⟩) (Kd.R_far (p := ⟨gb442, 0, none⟩) (Kd.R_types HO440.out BK442.out (by decide)) (fun _ hk => hk.2) (.int .i64 ((rdOf ByteArray.empty t438 0).size : Int))) (fun _ hk => hk.2) (.int .i64 0)) (fun _ hk => hk.2) (.slice none 0 0)) (fun _ hk => trivial)⟩, ⟨by first | exact Kd.R_nil _ _ _ _ _ | exact Kd.N_nil _ _ _ _ _ | exact Kd.V_nil _ _ _ _ _ | exact Kd.Q_nil _ _ _ _ _ | exact Kd.S_nil _ _ _ _ _⟩, ⟨by (with_reducible repeat (first | refine blk_drewN ?_ _ | refine blk_drew ?_ | refine blk_alloc ?_ _)); refine blk_far ?_ NB437_442.out _; (with_reducible repeat (first | refine blk_drewN ?_ _ | refine blk_drew ?_ | refine blk_alloc ?_ _)); refine blk_far ?_ NB437_442.out _; (with_reducible repeat (first | refine blk_drewN ?_ _ | refine blk_drew ?_ | refine blk_alloc ?_ _)); refine blk_far ?_ NB437_442.out _; exact bk_ BK437.out⟩, ⟨by (with_reducible repeat (first | refine blk_drewN ?_ _ | refine blk_drew ?_ | refine blk_alloc ?_ _)); refine blk_put (cs := #[.int .i64 ((rdOf ByteArray.empty t438 0).size : Int), .int .i64 0, .slice none 0 0]) ?_ 2 _ rfl; (with_reducible repeat (first | refine blk_drewN ?_ _ | refine blk_drew ?_ | refine blk_alloc ?_ _)); refine blk_put (cs := #[.int .i64 ((rdOf ByteArray.empty t438 0).size : Int), .int .i64 0, .slice none 0 0]) ?_ 1 _ rfl; (with_reducible repeat (first | refine blk_drewN ?_ _ | refine blk_drew ?_ | refine blk_alloc ?_ _)); refine blk_put (cs := #[.int .i64 0, .int .i64 0, .slice none 0 0]) ?_ 0 _ rfl; exact bk_ BK442.out⟩, ⟨qz1⟩⟩
 case round =>
 clear H'
 try clear c3
 try clear c3b0
 try clear c3b1
 try clear qi4
 try clear hcz9_0 hcz9_1 hcz9_2 hfz9_0 hfz9_1 hfz9_2
 try clear hx441_0
 try clear p441
 try clear q441
 obtain ⟨x6_1, x438000_1, x438001_1, x443001_1, x443002_1, u443002, rfl, HA, HK1, HO_4, HO_443002, BK437, BK442, HB⟩ := hrel
 cases gk with
 | zero => exact absurd HA.out (by simp [spec_ParseFloor.l0])
 | succ k1 =>
 have H := HA.out
 clear HA
 simp only [spec_ParseFloor.l0] at H
 replace H := iE_ H
 rcases H with ⟨c10b0, H⟩ | ⟨c10b0, H⟩
 {
 have HC11 := aM H
 clear H
 go_upto_region 7 with (fail)
 repeat (go_quiet (fail); go_upto_region 7 with (fail))
 go_cut [7, 39] (fun v7 v39 wc => ∃ (kq : Nat) (x7_10 : Bool) (x39_10 : Bool), v7 = .bool x7_10 ∧ v39 = .bool x39_10 ∧ Aside0 (spec_ParseFloor.j1 kq t438 x6_1 x7_10 x39_10 ((rdOf ByteArray.empty t438 0).size : Int) x443001_1 x443002_1 = some (r1, r2, r3, r4)) ∧ Aside0 (kq ≤ k1) ∧ Aside0 (Kd.R Kd.string 9 wc w.heap.size (fun _ => True) (.slice (some ad441) t438.length co6) t438) ∧ Aside0 (Kd.R (Kd.int .i64) 3 wc w.heap.size (fun _ => True) u443002 x443002_1) ∧ Aside0 (wc.heap[gb437]? = some (.cells #[.int .i64 x438000_1, .int .i64 x438001_1, (.slice none 0 0)] 43 (0, 0))) ∧ Aside0 (wc.heap[gb442]? = some (.cells #[.int .i64 ((rdOf ByteArray.empty t438 0).size : Int), .int .i64 x443001_1, u443002] 43 (0, 0))) ∧ Aside0 (Below w.heap.size w wc))
 case first =>
  have H := HC11.out
  clear HC11
  replace H := iQ_ H
  rcases H with ⟨c12b0, c12b1, H⟩ | ⟨c12, c12b0, c12b1, H⟩
  {
  (first | rw [c12b0] | (simp only [i64_w, i32_w]; rw [c12b0]) | rw [@decide_eq_true _ _ (of_decide_eq_true c12b0)] | rw [@decide_eq_true _ _ (of_decide_eq_true c12b1)] | skip)
  replace H := iD_ H
  obtain ⟨c13b0, H⟩ := H
  replace H := iQ_ H
  rcases H with ⟨c14b0, c14b1, H⟩ | ⟨c14, c14b0, c14b1, H⟩
  {
  have H' := aM H
  clear H
  have p443 : (0 ≤ (x6_1 : Int)) = True := et_
  have q443 : (x6_1 < (t438.length : Int)) = True := et_
  obtain ⟨ad443, e443, hx443_0⟩ := Kd.at_string (Kd.R_reads' HO_4.out).2.2 x6_1 dt_ dt_
  obtain rfl := iJ_ e443
  go_wp2
  repeat (go_quiet (fail); try go_wp2)
  go_meet
  case rel => exact ⟨_, ((x6_1 == (wrap64 ((t438.length : Int) - 1)))), (decide (x6_1 > 0)), qz7, qz7, H', ⟨by have := HK1.out; first | omega | exact Nat.le_refl _⟩, ⟨rm_ HO_4.out⟩, ⟨rm_ HO_443002.out⟩, ⟨bk_ BK437.out⟩, ⟨bk_ BK442.out⟩, ⟨qz1⟩⟩
  }
  {
  have H' := aM H
  clear H
  have p443 : (0 ≤ (x6_1 : Int)) = True := et_
  have q443 : (x6_1 < (t438.length : Int)) = True := et_
  obtain ⟨ad443, e443, hx443_0⟩ := Kd.at_string (Kd.R_reads' HO_4.out).2.2 x6_1 dt_ dt_
  obtain rfl := iJ_ e443
  go_wp2
  repeat (go_quiet (fail); try go_wp2)
  go_meet
  case rel => exact ⟨_, ((x6_1 == (wrap64 ((t438.length : Int) - 1)))), (false), qz7, qz7, H', ⟨by have := HK1.out; first | omega | exact Nat.le_refl _⟩, ⟨rm_ HO_4.out⟩, ⟨rm_ HO_443002.out⟩, ⟨bk_ BK437.out⟩, ⟨bk_ BK442.out⟩, ⟨qz1⟩⟩
  }
  }
  {
  (first | rw [c12b0] | (simp only [i64_w, i32_w]; rw [c12b0]) | rw [@decide_eq_false _ _ (of_decide_eq_false c12b0)] | rw [@decide_eq_false _ _ (of_decide_eq_false c12b1)] | skip)
  have H' := aM H
  clear H
  go_wp2
  repeat (go_quiet (fail); try go_wp2)
  go_meet
  case rel => exact ⟨_, ((x6_1 == (wrap64 ((t438.length : Int) - 1)))), (false), qz7, qz7, H', ⟨by have := HK1.out; first | omega | exact Nat.le_refl _⟩, ⟨rm_ HO_4.out⟩, ⟨rm_ HO_443002.out⟩, ⟨bk_ BK437.out⟩, ⟨bk_ BK442.out⟩, ⟨qz1⟩⟩
  }
 case rest =>
 clear HC11
 try clear c3
 try clear c3b0
 try clear c3b1
 try clear qi4
 try clear c10
 try clear c10b0
 try clear hcz9_0 hcz9_1 hcz9_2 hfz9_0 hfz9_1 hfz9_2
 try clear hx441_0
 try clear p441
 try clear q441
 obtain ⟨kq, x7_10, x39_10, rfl, rfl, HA, HJ10, HO_4, HO_443002, BK437, BK442, HB⟩ := hcut
 cases kq with
 | zero => exact absurd HA.out (by simp [spec_ParseFloor.j1])
 | succ kj10 =>
 have H := HA.out
 clear HA
 simp only [spec_ParseFloor.j1] at H
 replace H := iB_ H
 rcases H with ⟨rfl, H⟩ | ⟨rfl, H⟩
 {
 simp only [Option.some.injEq, Prod.mk.injEq] at H
 obtain ⟨rfl, rfl, rfl, rfl⟩ := H
 have hnb16 := NB442_437.out
 have hnc16 := NB437_442.out
 obtain ⟨hcz17_0, hcz17_1, hcz17_2, hfz17_0, hfz17_1, hfz17_2⟩ := b6_ BK442.out
 obtain ⟨hcz18_0, hcz18_1, hcz18_2, hfz18_0, hfz18_1, hfz18_2⟩ := b6_ BK437.out
 obtain ⟨Ao19, co19, eo19⟩ := Kd.R_slice HO_443002.out
 subst eo19
 go_wp2
 repeat (go_quiet (fail); try go_wp2)
 refine bodyPost_ret (results_ct rfl _ _ gb437 43 #[.int .i64 ((rdOf ByteArray.empty t438 0).size : Int), .int .i64 x443001_1, .slice Ao19 x443002_1.length co19] (0, 0) _ rfl (by (with_reducible repeat (first | refine blk_drewN ?_ _ | refine blk_drew ?_ | refine blk_alloc ?_ _)); refine blk_put (cs := #[.int .i64 ((rdOf ByteArray.empty t438 0).size : Int), .int .i64 x443001_1, .slice none 0 0]) ?_ 2 _ rfl; (with_reducible repeat (first | refine blk_drewN ?_ _ | refine blk_drew ?_ | refine blk_alloc ?_ _)); refine blk_put (cs := #[.int .i64 ((rdOf ByteArray.empty t438 0).size : Int), .int .i64 x438001_1, .slice none 0 0]) ?_ 1 _ rfl; (with_reducible repeat (first | refine blk_drewN ?_ _ | refine blk_drew ?_ | refine blk_alloc ?_ _)); refine blk_put (cs := #[.int .i64 x438000_1, .int .i64 x438001_1, .slice none 0 0]) ?_ 0 _ rfl; exact bk_ BK437.out) Try.underlying43 rfl (by kernel_rfl)) rfl ?_
 exact ⟨_, qzw, by (with_reducible repeat (first | apply Kd.R_alloc | apply Kd.R_drewN | apply Kd.R_drew)); exact Kd.R_mono (Kd.R_far (p := ⟨gb437, 2, none⟩) (Kd.R_far (p := ⟨gb437, 1, none⟩) (Kd.R_far (p := ⟨gb437, 0, none⟩) (Kd.R_types HO_443002.out BK437.out (by decide)) (fun _ hk => hk.2) (.int .i64 ((rdOf ByteArray.empty t438 0).size : Int))) (fun _ hk => hk.2) (.int .i64 x443001_1)) (fun _ hk => hk.2) (.slice Ao19 x443002_1.length co19)) (fun _ hk => trivial), qz1⟩
 }
 {
 have HC20 := aM H
 clear H
 go_upto_region 8 with (fail)
 repeat (go_quiet (fail); go_upto_region 8 with (fail))
 go_cut [63] (fun v63 wc => ∃ (kq : Nat) (x63_19 : Bool), v63 = .bool x63_19 ∧ Aside0 (spec_ParseFloor.j2 kq t438 x6_1 x63_19 ((rdOf ByteArray.empty t438 0).size : Int) x443001_1 x443002_1 = some (r1, r2, r3, r4)) ∧ Aside0 (kq ≤ kj10) ∧ Aside0 (Kd.R Kd.string 9 wc w.heap.size (fun _ => True) (.slice (some ad441) t438.length co6) t438) ∧ Aside0 (Kd.R (Kd.int .i64) 3 wc w.heap.size (fun _ => True) u443002 x443002_1) ∧ Aside0 (wc.heap[gb437]? = some (.cells #[.int .i64 x438000_1, .int .i64 x438001_1, (.slice none 0 0)] 43 (0, 0))) ∧ Aside0 (wc.heap[gb442]? = some (.cells #[.int .i64 ((rdOf ByteArray.empty t438 0).size : Int), .int .i64 x443001_1, u443002] 43 (0, 0))) ∧ Aside0 (Below w.heap.size w wc))
 case first =>
  have H := HC20.out
  clear HC20
  replace H := iB_ H
  rcases H with ⟨rfl, H⟩ | ⟨rfl, H⟩
  {
  have H' := aM H
  clear H
  go_wp2
  repeat (go_quiet (fail); try go_wp2)
  go_meet
  case rel => exact ⟨_, (true), qz7, H', ⟨by have := HK1.out; have := HJ10.out; first | omega | exact Nat.le_refl _⟩, ⟨rm_ HO_4.out⟩, ⟨rm_ HO_443002.out⟩, ⟨bk_ BK437.out⟩, ⟨bk_ BK442.out⟩, ⟨qz1⟩⟩
  }
  {
  replace H := iQ_ H
  rcases H with ⟨c22b0, c22b1, H⟩ | ⟨c22, c22b0, c22b1, H⟩
  {
  (first | rw [c22b0] | (simp only [i64_w, i32_w]; rw [c22b0]) | rw [@decide_eq_true _ _ (of_decide_eq_true c22b0)] | rw [@decide_eq_true _ _ (of_decide_eq_true c22b1)] | skip)
  have H' := aM H
  clear H
  go_wp2
  repeat (go_quiet (fail); try go_wp2)
  go_meet
  case rel => exact ⟨_, (true), qz7, H', ⟨by have := HK1.out; have := HJ10.out; first | omega | exact Nat.le_refl _⟩, ⟨rm_ HO_4.out⟩, ⟨rm_ HO_443002.out⟩, ⟨bk_ BK437.out⟩, ⟨bk_ BK442.out⟩, ⟨qz1⟩⟩
  }
  {
  (first | rw [c22b0] | (simp only [i64_w, i32_w]; rw [c22b0]) | rw [@decide_eq_false _ _ (of_decide_eq_false c22b0)] | rw [@decide_eq_false _ _ (of_decide_eq_false c22b1)] | skip)
  replace H := iD_ H
  obtain ⟨c23b0, H⟩ := H
  replace H := iD_ H
  obtain ⟨c24b0, H⟩ := H
  replace H := Option.bind_eq_some_iff.mp H
  obtain ⟨t445, A250, H⟩ := H
  have A25 := aM A250
  clear A250
  replace H := iB_ H
  rcases H with ⟨rfl, H⟩ | ⟨rfl, H⟩
  {
  have H' := aM H
  clear H
  have p444 : (0 ≤ (x6_1 : Int)) = True := et_
  have q444 : (x6_1 < (t438.length : Int)) = True := et_
  obtain ⟨ad444, e444, hx444_0⟩ := Kd.at_string (Kd.R_reads' HO_4.out).2.2 x6_1 dt_ dt_
  obtain rfl := iJ_ e444
  go_wp2_with (first | (go_at_call 98; (with_reducible refine (spec_l1In.calls ((rdOf ByteArray.empty t438 x6_1).size : Int) 1 10 true _ A25.out).mono ?_); rintro e w' ⟨rfl, ⟨nd, rfl⟩⟩; (try first | exact ⟨rfl, _, World.drewN_drewN _ _ _⟩ | exact ⟨rfl, _, Eq.trans (World.drewN_drewN _ _ _) (congrArg (World.drewN _) (Nat.add_assoc _ _ _))⟩); have p446 : 0 ≤ (x6_1 : Int) := dt_; have q446 : x6_1 < (t438.length : Int) := dt_; obtain ⟨ad446, e446, hx446_0⟩ := Kd.at_string (Kd.R_reads' HO_4.out).2.2 x6_1 p446 q446; obtain rfl := iJ_ e446; replace p446 := eq_true p446; replace q446 := eq_true q446; have hnb27 := NB442_437.out; have hnc27 := NB437_442.out; obtain ⟨hcz28_0, hcz28_1, hcz28_2, hfz28_0, hfz28_1, hfz28_2⟩ := b6_ BK442.out) | go_quiet (first | (go_at_call 98; (with_reducible refine (spec_l1In.calls ((rdOf ByteArray.empty t438 x6_1).size : Int) 1 10 true _ A25.out).mono ?_); rintro e w' ⟨rfl, ⟨nd, rfl⟩⟩; (try first | exact ⟨rfl, _, World.drewN_drewN _ _ _⟩ | exact ⟨rfl, _, Eq.trans (World.drewN_drewN _ _ _) (congrArg (World.drewN _) (Nat.add_assoc _ _ _))⟩); have p446 : 0 ≤ (x6_1 : Int) := dt_; have q446 : x6_1 < (t438.length : Int) := dt_; obtain ⟨ad446, e446, hx446_0⟩ := Kd.at_string (Kd.R_reads' HO_4.out).2.2 x6_1 p446 q446; obtain rfl := iJ_ e446; replace p446 := eq_true p446; replace q446 := eq_true q446; have hnb27 := NB442_437.out; have hnc27 := NB437_442.out; obtain ⟨hcz28_0, hcz28_1, hcz28_2, hfz28_0, hfz28_1, hfz28_2⟩ := b6_ BK442.out)))
  go_meet
  case rel => exact ⟨_, ((((rdOf ByteArray.empty t438 x6_1).size : Int) != ((rdOf ByteArray.empty t438 0).size : Int))), qz7, H', ⟨by have := HK1.out; have := HJ10.out; first | omega | exact Nat.le_refl _⟩, ⟨rm_ HO_4.out⟩, ⟨rm_ HO_443002.out⟩, ⟨bk_ BK437.out⟩, ⟨bk_ BK442.out⟩, ⟨qz1⟩⟩
  }
  {
  have H' := aM H
  clear H
  have p444 : (0 ≤ (x6_1 : Int)) = True := et_
  have q444 : (x6_1 < (t438.length : Int)) = True := et_
  obtain ⟨ad444, e444, hx444_0⟩ := Kd.at_string (Kd.R_reads' HO_4.out).2.2 x6_1 dt_ dt_
  obtain rfl := iJ_ e444
  go_wp2_with (first | (go_at_call 98; (with_reducible refine (spec_l1In.calls ((rdOf ByteArray.empty t438 x6_1).size : Int) 1 10 false _ A25.out).mono ?_); rintro e w' ⟨rfl, ⟨nd, rfl⟩⟩; (try first | exact ⟨rfl, _, World.drewN_drewN _ _ _⟩ | exact ⟨rfl, _, Eq.trans (World.drewN_drewN _ _ _) (congrArg (World.drewN _) (Nat.add_assoc _ _ _))⟩)) | go_quiet (first | (go_at_call 98; (with_reducible refine (spec_l1In.calls ((rdOf ByteArray.empty t438 x6_1).size : Int) 1 10 false _ A25.out).mono ?_); rintro e w' ⟨rfl, ⟨nd, rfl⟩⟩; (try first | exact ⟨rfl, _, World.drewN_drewN _ _ _⟩ | exact ⟨rfl, _, Eq.trans (World.drewN_drewN _ _ _) (congrArg (World.drewN _) (Nat.add_assoc _ _ _))⟩))))
  go_meet
  case rel => exact ⟨_, (true), qz7, H', ⟨by have := HK1.out; have := HJ10.out; first | omega | exact Nat.le_refl _⟩, ⟨rm_ HO_4.out⟩, ⟨rm_ HO_443002.out⟩, ⟨bk_ BK437.out⟩, ⟨bk_ BK442.out⟩, ⟨qz1⟩⟩
  }
  }
  }
 case rest =>
 clear HC20
 try clear c3
 try clear c3b0
 try clear c3b1
 try clear qi4
 try clear c10
 try clear c10b0
 try clear c15
 try clear hcz9_0 hcz9_1 hcz9_2 hfz9_0 hfz9_1 hfz9_2
 try clear hx441_0
 try clear p441
 try clear q441
 obtain ⟨kq, x63_19, rfl, HA, HJ19, HO_4, HO_443002, BK437, BK442, HB⟩ := hcut
 cases kq with
 | zero => exact absurd HA.out (by simp [spec_ParseFloor.j2])
 | succ kj19 =>
 have H := HA.out
 clear HA
 simp only [spec_ParseFloor.j2] at H
 replace H := iB_ H
 rcases H with ⟨rfl, H⟩ | ⟨rfl, H⟩
 {
 simp only [Option.some.injEq, Prod.mk.injEq] at H
 obtain ⟨rfl, rfl, rfl, rfl⟩ := H
 have hnb30 := NB437_442.out
 have hnc30 := NB442_437.out
 obtain ⟨hcz31_0, hcz31_1, hcz31_2, hfz31_0, hfz31_1, hfz31_2⟩ := b6_ BK437.out
 go_wp2
 repeat (go_quiet (fail); try go_wp2)
 refine bodyPost_ret (results_ct rfl _ _ gb437 43 #[.int .i64 0, .int .i64 0, .slice none 0 0] (0, 0) _ rfl (by (with_reducible repeat (first | refine blk_drewN ?_ _ | refine blk_drew ?_ | refine blk_alloc ?_ _)); refine blk_put (cs := #[.int .i64 0, .int .i64 0, .slice none 0 0]) ?_ 2 _ rfl; (with_reducible repeat (first | refine blk_drewN ?_ _ | refine blk_drew ?_ | refine blk_alloc ?_ _)); refine blk_put (cs := #[.int .i64 0, .int .i64 x438001_1, .slice none 0 0]) ?_ 1 _ rfl; (with_reducible repeat (first | refine blk_drewN ?_ _ | refine blk_drew ?_ | refine blk_alloc ?_ _)); refine blk_put (cs := #[.int .i64 x438000_1, .int .i64 x438001_1, .slice none 0 0]) ?_ 0 _ rfl; exact bk_ BK437.out) Try.underlying43 rfl (by kernel_rfl)) rfl ?_
 exact ⟨_, qzw, by first | exact Kd.R_nil _ _ _ _ _ | exact Kd.N_nil _ _ _ _ _ | exact Kd.V_nil _ _ _ _ _ | exact Kd.Q_nil _ _ _ _ _ | exact Kd.S_nil _ _ _ _ _, qz1⟩
 }
 {
 have H' := aM H
 clear H
 go_wp2
 repeat (go_quiet (fail); try go_wp2)
 go_loopg [8] kj19 (fun kq v8 w' => ∃ (x8_4 : Int) (x438000_4 : Int) (x438001_4 : Int) (x443002_4 : List Int) (u443002 : Value), v8 = .int .i64 x8_4 ∧ Aside0 (spec_ParseFloor.l1 kq t438 x6_1 x8_4 ((rdOf ByteArray.empty t438 0).size : Int) x443001_1 x443002_4 = some (r1, r2, r3, r4)) ∧ Aside0 (kq ≤ kj19) ∧ Aside0 (Kd.R Kd.string 9 w' w.heap.size (fun _ => True) (.slice (some ad441) t438.length co6) t438) ∧ Aside0 (Kd.R (Kd.int .i64) 3 w' w.heap.size (fun _ => True) u443002 x443002_4) ∧ Aside0 (w'.heap[gb437]? = some (.cells #[.int .i64 x438000_4, .int .i64 x438001_4, (.slice none 0 0)] 43 (0, 0))) ∧ Aside0 (w'.heap[gb442]? = some (.cells #[.int .i64 ((rdOf ByteArray.empty t438 0).size : Int), .int .i64 x443001_1, u443002] 43 (0, 0))) ∧ Aside0 (Below w.heap.size w w'))
 case atStart => exact ⟨(0), (x438000_1), (x438001_1), (x443002_1), (u443002), qz7, H', ⟨Nat.le_refl _⟩, ⟨rr_ HO_4.out⟩, ⟨rr_ HO_443002.out⟩, ⟨bk_ BK437.out⟩, ⟨bk_ BK442.out⟩, ⟨qz1⟩⟩
 case round =>
 clear H'
 try clear c3
 try clear c3b0
 try clear c3b1
 try clear qi4
 try clear c10
 try clear c10b0
 try clear c15
 try clear c29
 try clear hcz9_0 hcz9_1 hcz9_2 hfz9_0 hfz9_1 hfz9_2
 try clear hx441_0
 try clear p441
 try clear q441
 obtain ⟨x8_4, x438000_4, x438001_4, x443002_4, u443002, rfl, HA, HK4, HO_4, HO_443002, BK437, BK442, HB⟩ := hrel
 cases gk with
 | zero => exact absurd HA.out (by simp [spec_ParseFloor.l1])
 | succ k4 =>
 have H := HA.out
 clear HA
 simp only [spec_ParseFloor.l1] at H
 replace H := iD_ H
 obtain ⟨c32b0, H⟩ := H
 replace H := iD_ H
 obtain ⟨c33b0, H⟩ := H
 replace H := iE_ H
 rcases H with ⟨c34b0, H⟩ | ⟨c34b0, H⟩
 {
 replace H := iD_ H
 obtain ⟨c35b0, H⟩ := H
 replace H := Option.bind_eq_some_iff.mp H
 obtain ⟨t449, A370, H⟩ := H
 have A37 := aM A370
 clear A370
 replace H := iE_ H
 rcases H with ⟨c38b0, H⟩ | ⟨c38b0, H⟩
 {
 simp only [Option.some.injEq, Prod.mk.injEq] at H
 obtain ⟨rfl, rfl, rfl, rfl⟩ := H
 have p447 : (0 ≤ (x6_1 : Int)) = True := et_
 have q447 : (x6_1 < (t438.length : Int)) = True := et_
 obtain ⟨ad447, e447, hx447_0⟩ := Kd.at_string (Kd.R_reads' HO_4.out).2.2 x6_1 dt_ dt_
 obtain rfl := iJ_ e447
 have p448 : (0 ≤ (x6_1 : Int)) = True := et_
 have q448 : (x6_1 < (t438.length : Int)) = True := et_
 obtain ⟨ad448, e448, hx448_0⟩ := Kd.at_string (Kd.R_reads' HO_4.out).2.2 x6_1 dt_ dt_
 obtain rfl := iJ_ e448
 have p36 : 0 ≤ (x8_4 : Int) := dt_
 have q36 : x8_4 < ((rdOf ByteArray.empty t438 x6_1).size : Int) := dt_
 have hx36 := bt_at (rdOf ByteArray.empty t438 x6_1) x8_4
 replace p36 := eq_true p36
 replace q36 := eq_true q36
 go_wp2_with (first | (go_at_call 127; (with_reducible refine (spec_l1Mark.calls k4 (bt (rdOf ByteArray.empty t438 x6_1) x8_4) t449 _ A37.out).mono ?_); rintro e w' ⟨rfl, ⟨nd, rfl⟩⟩; (try first | exact ⟨rfl, _, World.drewN_drewN _ _ _⟩ | exact ⟨rfl, _, Eq.trans (World.drewN_drewN _ _ _) (congrArg (World.drewN _) (Nat.add_assoc _ _ _))⟩); have hnb39 := NB437_442.out; have hnc39 := NB442_437.out; obtain ⟨hcz40_0, hcz40_1, hcz40_2, hfz40_0, hfz40_1, hfz40_2⟩ := b6_ BK437.out) | go_quiet (first | (go_at_call 127; (with_reducible refine (spec_l1Mark.calls k4 (bt (rdOf ByteArray.empty t438 x6_1) x8_4) t449 _ A37.out).mono ?_); rintro e w' ⟨rfl, ⟨nd, rfl⟩⟩; (try first | exact ⟨rfl, _, World.drewN_drewN _ _ _⟩ | exact ⟨rfl, _, Eq.trans (World.drewN_drewN _ _ _) (congrArg (World.drewN _) (Nat.add_assoc _ _ _))⟩); have hnb39 := NB437_442.out; have hnc39 := NB442_437.out; obtain ⟨hcz40_0, hcz40_1, hcz40_2, hfz40_0, hfz40_1, hfz40_2⟩ := b6_ BK437.out)))
 refine bodyPost_ret (results_ct rfl _ _ gb437 43 #[.int .i64 0, .int .i64 0, .slice none 0 0] (0, 0) _ rfl (by (with_reducible repeat (first | refine blk_drewN ?_ _ | refine blk_drew ?_ | refine blk_alloc ?_ _)); refine blk_put (cs := #[.int .i64 0, .int .i64 0, .slice none 0 0]) ?_ 2 _ rfl; (with_reducible repeat (first | refine blk_drewN ?_ _ | refine blk_drew ?_ | refine blk_alloc ?_ _)); refine blk_put (cs := #[.int .i64 0, .int .i64 x438001_4, .slice none 0 0]) ?_ 1 _ rfl; (with_reducible repeat (first | refine blk_drewN ?_ _ | refine blk_drew ?_ | refine blk_alloc ?_ _)); refine blk_put (cs := #[.int .i64 x438000_4, .int .i64 x438001_4, .slice none 0 0]) ?_ 0 _ rfl; exact bk_ BK437.out) Try.underlying43 rfl (by kernel_rfl)) rfl ?_
 exact ⟨_, qzw, by first | exact Kd.R_nil _ _ _ _ _ | exact Kd.N_nil _ _ _ _ _ | exact Kd.V_nil _ _ _ _ _ | exact Kd.Q_nil _ _ _ _ _ | exact Kd.S_nil _ _ _ _ _, qz1⟩
 }
 {
 replace H := iN_ H
 obtain ⟨c41, H⟩ := H
 have LMc41 := aM c41
 clear c41
 obtain ⟨y450, hy450⟩ : ∃ y_ : List Int, y_ = (x443002_4 ++ [t449]) := ⟨_, rfl⟩
 replace H : (spec_ParseFloor.l1 k4 t438 x6_1 (wrap64 (x8_4 + 1)) ((rdOf ByteArray.empty t438 0).size : Int) x443001_1 y450) = some (r1, r2, r3, r4) := by first | (rw [hy450]; exact H) | exact H
 have Ny450 := aM hy450
 clear hy450
 have H' := aM H
 clear H
 have p447 : (0 ≤ (x6_1 : Int)) = True := et_
 have q447 : (x6_1 < (t438.length : Int)) = True := et_
 obtain ⟨ad447, e447, hx447_0⟩ := Kd.at_string (Kd.R_reads' HO_4.out).2.2 x6_1 dt_ dt_
 obtain rfl := iJ_ e447
 have p448 : (0 ≤ (x6_1 : Int)) = True := et_
 have q448 : (x6_1 < (t438.length : Int)) = True := et_
 obtain ⟨ad448, e448, hx448_0⟩ := Kd.at_string (Kd.R_reads' HO_4.out).2.2 x6_1 dt_ dt_
 obtain rfl := iJ_ e448
 have p36 : 0 ≤ (x8_4 : Int) := dt_
 have q36 : x8_4 < ((rdOf ByteArray.empty t438 x6_1).size : Int) := dt_
 have hx36 := bt_at (rdOf ByteArray.empty t438 x6_1) x8_4
 replace p36 := eq_true p36
 replace q36 := eq_true q36
 go_wp2_with (first | (go_at_call 127; (with_reducible refine (spec_l1Mark.calls k4 (bt (rdOf ByteArray.empty t438 x6_1) x8_4) t449 _ A37.out).mono ?_); rintro e w' ⟨rfl, ⟨nd, rfl⟩⟩; (try first | exact ⟨rfl, _, World.drewN_drewN _ _ _⟩ | exact ⟨rfl, _, Eq.trans (World.drewN_drewN _ _ _) (congrArg (World.drewN _) (Nat.add_assoc _ _ _))⟩); have hnb42 := NB442_437.out; have hnc42 := NB437_442.out; obtain ⟨hcz43_0, hcz43_1, hcz43_2, hfz43_0, hfz43_1, hfz43_2⟩ := b6_ BK442.out) | ((with_reducible refine gate_builtin (b := .append) (xs := #[.tmp 87, .tmp 89]) rfl ?_); (try (refine gate_guard (by rfl) ?_; dsimp only)); at_builtin; refine Kd.R_append (Kd.int .i64) (w0 := w) w.heap.size rfl (.tmp 87) (.tmp 89) 24 3 (.int .i64 0) 8 rfl Try.underlying24 info3 rfl (by decide) (by omega) u443002 x443002_4 t449 [.int .i64 t449] (fun _ => True) (fun _ => False) rfl rfl ?aP (fun _ hk => hk.elim) ?aF ?aO ?aB ?aS ?aL ?_; (case aP => exact rfl); (case aB => exact qz1); (case aF => exact qz21); (case aO => exact (rr_ HO_443002.out)); (case aS => exact qz32); (case aL => have := LMc41.out; omega); intro v451 w44 ho hb hg hat; rw [← Ny450.out] at ho; replace HO_4 := aM (Kd.R_over' (rr_ HO_4.out) (Kd.R_typed (rr_ HO_443002.out)) (by decide) hg); replace BK437 := aM (blk_grown (bk_ BK437.out) hg (Kd.R_ne HO_443002.out BK437.out (by decide))); replace BK442 := aM (blk_grown (bk_ BK442.out) hg (Kd.R_ne HO_443002.out BK442.out (by decide))); replace HB := aM (hb); have HO452 := aM (ho); clear HO_443002; clear ho hb hg hat; obtain ⟨Ao45, co45, eo45⟩ := Kd.R_slice HO452.out; subst eo45; obtain ⟨hcz46_0, hcz46_1, hcz46_2, hfz46_0, hfz46_1, hfz46_2⟩ := b6_ BK442.out) | go_quiet (first | (go_at_call 127; (with_reducible refine (spec_l1Mark.calls k4 (bt (rdOf ByteArray.empty t438 x6_1) x8_4) t449 _ A37.out).mono ?_); rintro e w' ⟨rfl, ⟨nd, rfl⟩⟩; (try first | exact ⟨rfl, _, World.drewN_drewN _ _ _⟩ | exact ⟨rfl, _, Eq.trans (World.drewN_drewN _ _ _) (congrArg (World.drewN _) (Nat.add_assoc _ _ _))⟩); have hnb42 := NB442_437.out; have hnc42 := NB437_442.out; obtain ⟨hcz43_0, hcz43_1, hcz43_2, hfz43_0, hfz43_1, hfz43_2⟩ := b6_ BK442.out)))
 go_roundg k4
 case measure => have := HK1.out; have := HJ10.out; have := HJ19.out; have := HK4.out; omega
 case rel => exact ⟨(wrap64 (x8_4 + 1)), (x438000_4), (x438001_4), (y450), (.slice Ao45 y450.length co45), qz7, H', ⟨by have := HK1.out; have := HJ10.out; have := HJ19.out; have := HK4.out; omega⟩, ⟨by (with_reducible repeat (first | apply Kd.R_alloc | apply Kd.R_drewN | apply Kd.R_drew)); exact Kd.R_mono (Kd.R_far (p := ⟨gb442, 2, none⟩) (Kd.R_types HO_4.out BK442.out (by decide)) (fun _ hk => hk.2) (.slice Ao45 y450.length co45)) (fun _ hk => trivial)⟩, ⟨by (with_reducible repeat (first | apply Kd.R_alloc | apply Kd.R_drewN | apply Kd.R_drew)); exact Kd.R_mono (Kd.R_far (p := ⟨gb442, 2, none⟩) (Kd.R_types HO452.out BK442.out (by decide)) (fun _ hk => hk.2) (.slice Ao45 y450.length co45)) (fun _ hk => trivial)⟩, ⟨by (with_reducible repeat (first | refine blk_drewN ?_ _ | refine blk_drew ?_ | refine blk_alloc ?_ _)); refine blk_far ?_ NB437_442.out _; exact bk_ BK437.out⟩, ⟨by (with_reducible repeat (first | refine blk_drewN ?_ _ | refine blk_drew ?_ | refine blk_alloc ?_ _)); refine blk_put (cs := #[.int .i64 ((rdOf ByteArray.empty t438 0).size : Int), .int .i64 x443001_1, u443002]) ?_ 2 _ rfl; exact bk_ BK442.out⟩, ⟨qz1⟩⟩
 }
 }
 {
 have H' := aM H
 clear H
 have p447 : (0 ≤ (x6_1 : Int)) = True := et_
 have q447 : (x6_1 < (t438.length : Int)) = True := et_
 obtain ⟨ad447, e447, hx447_0⟩ := Kd.at_string (Kd.R_reads' HO_4.out).2.2 x6_1 dt_ dt_
 obtain rfl := iJ_ e447
 have hnb47 := NB442_437.out
 have hnc47 := NB437_442.out
 obtain ⟨hcz48_0, hcz48_1, hcz48_2, hfz48_0, hfz48_1, hfz48_2⟩ := b6_ BK442.out
 go_wp2
 repeat (go_quiet (fail); try go_wp2)
 go_roundg k4
 case measure => have := HK1.out; have := HJ10.out; have := HJ19.out; have := HK4.out; omega
 case rel => exact ⟨(wrap64 (x6_1 + 1)), (x438000_4), (x438001_4), (wrap64 (x443001_1 + 1)), (x443002_4), (u443002), qz7, H', ⟨by have := HK1.out; have := HJ10.out; have := HJ19.out; have := HK4.out; omega⟩, ⟨by (with_reducible repeat (first | apply Kd.R_alloc | apply Kd.R_drewN | apply Kd.R_drew)); exact Kd.R_mono (Kd.R_far (p := ⟨gb442, 1, none⟩) (Kd.R_types HO_4.out BK442.out (by decide)) (fun _ hk => hk.2) (.int .i64 (wrap64 (x443001_1 + 1)))) (fun _ hk => trivial)⟩, ⟨by (with_reducible repeat (first | apply Kd.R_alloc | apply Kd.R_drewN | apply Kd.R_drew)); exact Kd.R_mono (Kd.R_far (p := ⟨gb442, 1, none⟩) (Kd.R_types HO_443002.out BK442.out (by decide)) (fun _ hk => hk.2) (.int .i64 (wrap64 (x443001_1 + 1)))) (fun _ hk => trivial)⟩, ⟨by (with_reducible repeat (first | refine blk_drewN ?_ _ | refine blk_drew ?_ | refine blk_alloc ?_ _)); refine blk_far ?_ NB437_442.out _; exact bk_ BK437.out⟩, ⟨by (with_reducible repeat (first | refine blk_drewN ?_ _ | refine blk_drew ?_ | refine blk_alloc ?_ _)); refine blk_put (cs := #[.int .i64 ((rdOf ByteArray.empty t438 0).size : Int), .int .i64 x443001_1, u443002]) ?_ 1 _ rfl; exact bk_ BK442.out⟩, ⟨qz1⟩⟩
 }
 }
 }
 }
 {
 simp only [Option.some.injEq, Prod.mk.injEq] at H
 obtain ⟨rfl, rfl, rfl, rfl⟩ := H
 have hnb49 := NB442_437.out
 have hnc49 := NB437_442.out
 obtain ⟨hcz50_0, hcz50_1, hcz50_2, hfz50_0, hfz50_1, hfz50_2⟩ := b6_ BK442.out
 obtain ⟨hcz51_0, hcz51_1, hcz51_2, hfz51_0, hfz51_1, hfz51_2⟩ := b6_ BK437.out
 obtain ⟨Ao52, co52, eo52⟩ := Kd.R_slice HO_443002.out
 subst eo52
 go_wp2
 repeat (go_quiet (fail); try go_wp2)
 refine bodyPost_ret (results_ct rfl _ _ gb437 43 #[.int .i64 ((rdOf ByteArray.empty t438 0).size : Int), .int .i64 x443001_1, .slice Ao52 x443002_1.length co52] (0, 0) _ rfl (by (with_reducible repeat (first | refine blk_drewN ?_ _ | refine blk_drew ?_ | refine blk_alloc ?_ _)); refine blk_put (cs := #[.int .i64 ((rdOf ByteArray.empty t438 0).size : Int), .int .i64 x443001_1, .slice none 0 0]) ?_ 2 _ rfl; (with_reducible repeat (first | refine blk_drewN ?_ _ | refine blk_drew ?_ | refine blk_alloc ?_ _)); refine blk_put (cs := #[.int .i64 ((rdOf ByteArray.empty t438 0).size : Int), .int .i64 x438001_1, .slice none 0 0]) ?_ 1 _ rfl; (with_reducible repeat (first | refine blk_drewN ?_ _ | refine blk_drew ?_ | refine blk_alloc ?_ _)); refine blk_put (cs := #[.int .i64 x438000_1, .int .i64 x438001_1, .slice none 0 0]) ?_ 0 _ rfl; exact bk_ BK437.out) Try.underlying43 rfl (by kernel_rfl)) rfl ?_
 exact ⟨_, qzw, by (with_reducible repeat (first | apply Kd.R_alloc | apply Kd.R_drewN | apply Kd.R_drew)); exact Kd.R_mono (Kd.R_far (p := ⟨gb437, 2, none⟩) (Kd.R_far (p := ⟨gb437, 1, none⟩) (Kd.R_far (p := ⟨gb437, 0, none⟩) (Kd.R_types HO_443002.out BK437.out (by decide)) (fun _ hk => hk.2) (.int .i64 ((rdOf ByteArray.empty t438 0).size : Int))) (fun _ hk => hk.2) (.int .i64 x443001_1)) (fun _ hk => hk.2) (.slice Ao52 x443002_1.length co52)) (fun _ hk => trivial), qz1⟩
 }
/-! ### spec_l1Str: function 107 -/
def spec_l1Str.f (s0_0 : List Int) (s0_1 : Int) (s0_2 : Int) (l1 : List ByteArray) : Option (ByteArray × Int × Int) := (spec_l1Below.f s0_0 s0_1 s0_2 (l1.length : Int)).bind fun bt453 => (if 0 ≤ bt453.1 then (if bt453.1 < (l1.length : Int) then (some (rdOf ByteArray.empty l1 bt453.1, bt453.2.1, bt453.2.2)) else (none)) else (none))
theorem spec_l1Str.calls (g : Nat) (s0_0 : List Int) (s0_1 : Int) (s0_2 : Int) (A1 : Option Addr) (c1 : Nat) (l1 : List ByteArray) (r1 : ByteArray) (r2 : Int) (r3 : Int) (w0 w : World) (hI : IsS113 w0 w g s0_0 s0_1 s0_2) (hB : Below w0.heap.size w0 w) (hr1 : Kd.C Kd.string w A1 l1.length l1) (hc1 : l1.length ≤ c1) (hf1 : ∀ ad, A1 = some ad → 0 < l1.length → ad.block ≠ g) (h : spec_l1Str.f s0_0 s0_1 s0_2 l1 = some (r1, r2, r3)) :
  Calls Try.prog 107 #[.pointer (some ⟨g, 0, none⟩), .slice A1 l1.length c1] w fun e w' => e = .returned (.string r1) ∧ IsS113 w0 w' g s0_0 r2 r3 ∧ Below w0.heap.size w0 w' ∧ KeepBut w w' g none := by
 have HR1 := aM hr1
 have HC1 := aM hc1
 clear hr1 hc1
 have HI0 := aM hI
 have HK := aM (KeepBut.refl w g none)
 have HL := aM hB.size
 clear hI
 have HW0 := aM hB.size
 have HB := aM hB
 clear hB
 unfold spec_l1Str.f at h
 have H := h
 clear h
 replace H := Option.bind_eq_some_iff.mp H
 obtain ⟨⟨t453, t454, t455⟩, A30, H⟩ := H
 try dsimp only at H
 have A3 := aM A30
 clear A30
 replace H := iD_ H
 obtain ⟨c4b0, H⟩ := H
 replace H := iD_ H
 obtain ⟨c5b0, H⟩ := H
 simp only [Option.some.injEq, Prod.mk.injEq] at H
 obtain ⟨rfl, rfl, rfl⟩ := H
 go_enter Try.func107, Try.ntmps107
 go_wp2_with (first | ((with_reducible refine gate_callee (f := 73) rfl ?_); refine goesL_ (some 9) rfl rfl Try.func73 (by kernel_rfl) rfl #[.pointer (some ⟨g, 0, none⟩), .int .i64 (l1.length : Int)] rfl qz2 ?_; (with_reducible refine (spec_l1Below.calls g s0_0 s0_1 s0_2 (l1.length : Int) t453 t454 t455 w0 _ ?_ ?_ A3.out).mono ?_); exact qz4; exact qz1; rintro e w6 ⟨rfl, hi, hb, hk⟩; refine ⟨_, rfl, ?_⟩; replace HK := aM (KeepBut.trans qz3 hk (.inl rfl)); replace HB := aM (hb); replace HI0 := aM (hi); (try clear hb hk hi); have p456 : 0 ≤ (t453 : Int) := dt_; have q456 : t453 < (l1.length : Int) := dt_; obtain ⟨ad456, e456, hx456_0⟩ := Kd.at_string HR1.out t453 p456 q456; cases e456; replace hx456_0 := keep_cell HK.out hx456_0 (by first | (rw [add_block]; exact hf1 _ rfl (by omega)) | exact hf1 _ rfl (by omega) | exact hf1 ad456 rfl (by omega)); replace p456 := eq_true p456; replace q456 := eq_true q456))
 go_ret
 exact ⟨qzw, qz4, qz1, qz3⟩
end Go.Proofs.Ytankmdbbgepmbaa.PFnClashes
