import Derived.Shelf.GgSortMore.Stable
namespace Go.Proofs.SortLoose
open Go.Shelf Go.RowKit Go.Lib Go.Sort Go.Proofs
set_option linter.unusedVariables false
set_option linter.unusedSimpArgs false
variable {P : Program} {ρ : Ren} {α : Type} [Inhabited α]
/-- The block keeps its form. -/
def Shape (blk : Nat) (w W : World) : Prop := ∀ cur e fr, w.heap[blk]? = some (.cells cur e fr) → ∃ cur', W.heap[blk]? = some (.cells cur' e fr) ∧ cur'.size = cur.size
theorem Shape.refl (blk : Nat) (w : World) : Shape blk w w := fun cur _ _ h => ⟨cur, h, rfl⟩
theorem Shape.trans {blk : Nat} {a b c : World} (h : Shape blk a b) (k : Shape blk b c) : Shape blk a c := fun cur e fr hc => by
  obtain ⟨c1, h1, s1⟩ := h cur e fr hc
  obtain ⟨c2, h2, s2⟩ := k c1 e fr h1
  exact ⟨c2, h2, s2.trans s1⟩
theorem Shape.below {blk : Nat} {w W : World} (hb : blk < w.heap.size) (k : Below w.heap.size w W) : Shape blk w W := fun cur _ _ h => ⟨cur, (k.block blk hb).trans h, rfl⟩
theorem Shape.set (blk k : Nat) (w : World) (u : Value) : Shape blk w (w.setCell ⟨blk, k, none⟩ u) := fun cur e fr h =>
  ⟨cur.setIfInBounds k u, by simp [World.setCell, Array.getElem?_modify, h], by simp⟩
/-- A world that a sort passes through: the row holds dk, all other old blocks are as they were; there may be new blocks. -/
structure Loose (enc : α → Value) (p : α → Prop) (w : World) (blk off : Nat) (dk : Array α) (W : World) : Prop where
  gr : w.grownBy W (some blk)
  ho : Holds enc W blk off dk
  sh : Shape blk w W
  al : ∀ k, k < dk.size → p dk[k]!
theorem below_grown {w w1 : World} {r : Option Nat} (h : Below w.heap.size w w1) : w.grownBy w1 r := ⟨h.os, h.tape, h.output, h.size, fun i hi _ => h.block i hi⟩
theorem heap_cell {w w' : World} {b k : Nat} (h : w'.heap[b]? = w.heap[b]?) : w'.cell? ⟨b, k, none⟩ = w.cell? ⟨b, k, none⟩ ∧ w'.frozen? ⟨b, k, none⟩ = w.frozen? ⟨b, k, none⟩ := by
  unfold World.cell? World.frozen?
  simp only [h, and_self]
theorem Loose.lt {enc : α → Value} {p : α → Prop} {w W : World} {blk off : Nat} {dk : Array α} (h : Loose enc p w blk off dk W) (hb : blk < w.heap.size) : blk < W.heap.size := Nat.lt_of_lt_of_le hb h.gr.size
theorem grown_below {a b c : World} {r : Option Nat} (h : a.grownBy b r) (k : Below b.heap.size b c) : a.grownBy c r :=
  ⟨k.os.trans h.os, k.tape.trans h.tape, k.output.trans h.output, Nat.le_trans h.size k.size, fun i hi hne => (k.block i (Nat.lt_of_lt_of_le hi h.size)).trans (h.block i hi hne)⟩
theorem grown_trans {a b c : World} {r : Option Nat} (h : a.grownBy b r) (k : b.grownBy c r) : a.grownBy c r :=
  ⟨k.os.trans h.os, k.tape.trans h.tape, k.output.trans h.output, Nat.le_trans h.size k.size, fun i hi hne => (k.block i (Nat.lt_of_lt_of_le hi h.size) hne).trans (h.block i hi hne)⟩
theorem holds_below {enc : α → Value} {W W' : World} {blk off : Nat} {dk : Array α} (h : Holds enc W blk off dk) (hb : blk < W.heap.size) (k : Below W.heap.size W W') : Holds enc W' blk off dk := fun j hj => by
  have e := heap_cell (k := off + j) (k.block blk hb)
  exact ⟨e.1.trans (h j hj).1, e.2.trans (h j hj).2⟩
theorem Loose.below {enc : α → Value} {p : α → Prop} {w W W' : World} {blk off : Nat} {dk : Array α} (h : Loose enc p w blk off dk W) (hb : blk < w.heap.size) (k : Below W.heap.size W W') : Loose enc p w blk off dk W' :=
  ⟨grown_below h.gr k, holds_below h.ho (h.lt hb) k, h.sh.trans (Shape.below (h.lt hb) k), h.al⟩
theorem grown_refl (w : World) (r : Option Nat) : w.grownBy w r := ⟨rfl, rfl, rfl, Nat.le_refl _, fun _ _ _ => rfl⟩
theorem Loose.start {enc : α → Value} {p : α → Prop} {w : World} {blk off : Nat} {dk : Array α} (h : Holds enc w blk off dk) (ha : ∀ k, k < dk.size → p dk[k]!) : Loose enc p w blk off dk w := ⟨grown_refl _ _, h, Shape.refl _ _, ha⟩
theorem Loose.trans {enc : α → Value} {p : α → Prop} {w W W' : World} {blk off : Nat} {dk' : Array α} (h : Below w.heap.size w W) (hb : blk < w.heap.size) (k : Loose enc p W blk off dk' W') : Loose enc p w blk off dk' W' := ⟨grown_trans (below_grown h) k.gr, k.ho, (Shape.below hb h).trans k.sh, k.al⟩
theorem set_grown (w : World) (b k : Nat) (u : Value) : w.grownBy (w.setCell ⟨b, k, none⟩ u) (some b) :=
  ⟨rfl, rfl, rfl, by simp [World.setCell], fun i _ hne => Below.heap_setCell w ⟨b, k, none⟩ u i (fun e => hne (by rw [e]))⟩
theorem swp_all {p : α → Prop} {dk : Array α} (h : ∀ k, k < dk.size → p dk[k]!) {i j : Nat} (hi : i < dk.size) (hj : j < dk.size) : ∀ k, k < (swp dk i j).size → p (swp dk i j)[k]! := fun k hk => by
  have hk' : k < dk.size := by simpa [swp] using hk
  have e : (swp dk i j)[k]! = if j = k then dk[i]! else if i = k then dk[j]! else dk[k]! := by
    unfold swp
    simp only [getElem!_def, Array.getElem?_setIfInBounds, Array.size_setIfInBounds]
    by_cases h1 : j = k <;> by_cases h2 : i = k <;> simp [h1, h2, hi, hj, hk']
  rw [e]
  split
  · exact h i hi
  · split
    · exact h j hj
    · exact h k hk'
theorem Loose.swap {enc : α → Value} {p : α → Prop} {w W : World} {blk off : Nat} {dk : Array α} (h : Loose enc p w blk off dk W) {i j : Nat} (hi : i < dk.size) (hj : j < dk.size) :
    Loose enc p w blk off (swp dk i j) ((W.setCell ⟨blk, off + i, none⟩ (enc dk[j]!)).setCell ⟨blk, off + j, none⟩ (enc dk[i]!)) := by
  refine ⟨grown_trans h.gr (grown_trans (set_grown _ _ _ _) (set_grown _ _ _ _)), ?_, h.sh.trans ((Shape.set _ _ _ _).trans (Shape.set _ _ _ _)), swp_all h.al hi hj⟩
  have e := putRow_swp enc W blk off dk i j hi hj
  rw [putRow_self enc W blk off dk h.ho] at e
  rw [e]
  exact holds_putRow enc W blk off dk _ h.ho (size_swp _ _ _)
theorem below_alloc' (w : World) (o : Obj) : Below w.heap.size w (w.alloc o) := (Below.refl _ w).alloc (Nat.le_refl _) o
/-- What is asked of 'less': it may lay blocks of its own. -/
def LessL (P : Program) (g : Nat) (lb : Array Value) (enc : α → Value) (p : α → Prop) (lt : α → α → Bool) (blk off size : Nat) (w : World) : Prop :=
  ∀ (W : World) (dk : Array α), Loose enc p w blk off dk W → dk.size = size → ∀ i j : Nat, i < size → j < size →
    Calls P g (#[.int .i64 i, .int .i64 j] ++ lb) W fun e w' => e = .returned (.bool (lt dk[i]! dk[j]!)) ∧ Below W.heap.size W w'
theorem LessL.on {g : Nat} {lb : Array Value} {enc : α → Value} {p : α → Prop} {lt : α → α → Bool} {blk off size : Nat} {w w1 : World} (h : LessL P g lb enc p lt blk off size w) (hg : Below w.heap.size w w1) (hb : blk < w.heap.size) : LessL P g lb enc p lt blk off size w1 :=
  fun W dk hl hs i j hi hj => h W dk (Loose.trans hg hb hl) hs i j hi hj
set_option maxHeartbeats 2000000 in
set_option maxRecDepth 100000 in
theorem ins_loose (L : LaysGg.n26 P ρ) (enc : α → Value) (p : α → Prop) (lt : α → α → Bool) (g : Nat) (lb : Array Value) (sf : Nat) (sb : Array Value) (blk off a b : Nat) (d : Array α) (w : World)
    (eg : ∀ args w, (callFunc g args).run P w = .ok (.enter g args) w) (hless : LessL P g lb enc p lt blk off d.size w) (hswap : SwapSwaps P sf sb enc blk off d.size)
    (hH : Holds enc w blk off d) (hal : ∀ k, k < d.size → p d[k]!) (hblk : blk < w.heap.size) (hab : a ≤ b) (hb : b ≤ d.size) (hsz : d.size < 4611686018427387904) :
    Calls P (ρ.f 26) #[.agg #[.func (.func g) #[] lb, .func (.func sf) #[] sb], .int .i64 a, .int .i64 b] w fun e w' =>
      e = .returned (.tuple #[]) ∧ Loose enc p w blk off (Sort.insertionSort lt d a b) w' := by
  have mixed := L.mixed; have t0 := L.t0; have a0 := L.a0; have z0 := L.z0; have v0 := L.v0; have t3 := L.t3; have a3 := L.a3; have z3 := L.z3; have v3 := L.v3; have t4 := L.t4; have a4 := L.a4; have z4 := L.z4; have v4 := L.v4; have t26 := L.t26; have a26 := L.a26; have z26 := L.z26; have v26 := L.v26; have t37 := L.t37; have a37 := L.a37; have z37 := L.z37; have v37 := L.v37; have t44 := L.t44; have a44 := L.a44; have z44 := L.z44; have v44 := L.v44
  have u44 := run_underlying L.t44
  have hH1 : Loose enc p w blk off d (w.alloc (.cells #[.func (.func g) #[] lb, .func (.func sf) #[] sb] (ρ.t 44))) := (Loose.start hH hal).below hblk (below_alloc' _ _)
  have hbx : ∀ W, (w.alloc (.cells #[.func (.func g) #[] lb, .func (.func sf) #[] sb] (ρ.t 44))).grownBy W (some blk) → W.cell? ⟨w.heap.size, 0, none⟩ = some (.func (.func g) #[] lb) ∧ W.cell? ⟨w.heap.size, 1, none⟩ = some (.func (.func sf) #[] sb) := fun W h => by
    have e := h.block w.heap.size (by simp) (fun e => by injection e with e; omega)
    exact ⟨(heap_cell e).1.trans (by simp), (heap_cell e).1.trans (by simp)⟩
  go_enter L.f26, BodyGg.n26_ntmps ρ
  go_wp2
  go_loopw [6] (fun vi wr => ∃ (i : Nat) (dk : Array α), vi = .int .i64 i ∧ a < i ∧ i ≤ b + 1 ∧ dk.size = d.size ∧ Loose enc p (w.alloc (.cells #[.func (.func g) #[] lb, .func (.func sf) #[] sb] (ρ.t 44))) blk off dk wr ∧
      insOuter lt a b i dk = insOuter lt a b (a + 1) d) (fun vi _ => b + 1 - (intOf vi).toNat)
  case atStart => exact ⟨a + 1, d, by go_num, by omega, by omega, rfl, Loose.start hH1.ho hH1.al, rfl⟩
  case round =>
    obtain ⟨i, dk, rfl, hai, hib, hsk, hwr, hO⟩ := hrel
    have HO : Hid (insOuter lt a b i dk = insOuter lt a b (a + 1) d) := hO
    have HWr : Hid (Loose enc p (w.alloc (.cells #[.func (.func g) #[] lb, .func (.func sf) #[] sb] (ρ.t 44))) blk off dk wr) := hwr
    clear hO hwr
    go_wp2
    · -- i < b: the inner loop
      go_loopw [7] (fun vj wr2 => ∃ (j : Nat) (dj : Array α), vj = .int .i64 j ∧ a ≤ j ∧ j ≤ i ∧ dj.size = d.size ∧ Loose enc p (w.alloc (.cells #[.func (.func g) #[] lb, .func (.func sf) #[] sb] (ρ.t 44))) blk off dj wr2 ∧
          insInner lt a j dj = insInner lt a i dk) (fun vj _ => (intOf vj).toNat)
      case atStart => exact ⟨i, dk, rfl, by omega, Nat.le_refl _, hsk, HWr.out, rfl⟩
      case round =>
        obtain ⟨j, dj, rfl, haj, hji, hsj, hw2, hI⟩ := hrel
        have hlt : i < b := by assumption
        have HW : Hid (Loose enc p (w.alloc (.cells #[.func (.func g) #[] lb, .func (.func sf) #[] sb] (ρ.t 44))) blk off dj wr) := hw2
        have HI : Hid (insInner lt a j dj = insInner lt a i dk) := hI
        obtain ⟨c0, c1⟩ := hbx wr hw2.gr
        have HBX : Hid _ := hbx
        clear hw2 hI hH hH1 hbx
        have out : (j ≤ a ∨ lt dj[j]! dj[j - 1]! = false) → ∀ W, Loose enc p (w.alloc (.cells #[.func (.func g) #[] lb, .func (.func sf) #[] sb] (ρ.t 44))) blk off dj W → ∃ i' dk', Value.int .i64 ((i : Int) + 1) = .int .i64 (i' : Nat) ∧ a < i' ∧ i' ≤ b + 1 ∧ dk'.size = d.size ∧
            Loose enc p (w.alloc (.cells #[.func (.func g) #[] lb, .func (.func sf) #[] sb] (ρ.t 44))) blk off dk' W ∧ insOuter lt a b i' dk' = insOuter lt a b (a + 1) d := fun hs W hW =>
          ⟨i + 1, dj, by go_num, by omega, by omega, hsj, hW,
            by rw [← HO.out, insOuter_go _ _ _ _ _ hlt, ← HI.out, insInner_stop _ _ _ _ hs]⟩
        have OUT : Hid _ := out
        clear out
        by_cases hja : a < j
        · have hl := hless wr dj (Loose.trans (below_alloc' _ _) hblk HW.out) hsj j (j - 1) (by omega) (by omega)
          rw [show (((j - 1 : Nat) : Int)) = (j : Int) - 1 by omega] at hl
          cases hlv : lt dj[j]! dj[j - 1]! with
          | true =>
            rw [hlv] at hl
            go_wp2_with (go_at_fn g; refine hl.mono ?_; rintro e w' ⟨rfl, hbw⟩; have HL : Hid (Loose enc p (w.alloc (.cells #[.func (.func g) #[] lb, .func (.func sf) #[] sb] (ρ.t 44))) blk off dj w') := HW.out.below (by simp; omega) hbw; have HB2 : Hid _ := HBX.out w' HL.out.gr; obtain ⟨d0, d1⟩ := HB2.out; clear hbw c0 c1)
            have hs := hswap w' dj HL.out.ho hsj j (j - 1) (by omega) (by omega)
            rw [show (((j - 1 : Nat) : Int)) = (j : Int) - 1 by omega] at hs
            rw [hs, Oper.upon_value]
            go_wp2
            go_roundw
            case rel =>
              (repeat apply Exists.intro)
              refine ⟨⟨j - 1, swp dj j (j - 1), by congr 1 <;> omega, by omega, by omega, by rw [size_swp]; exact hsj, HL.out.swap (by omega) (by omega), ?_⟩, by rw [decide_eq_true hlt, show ((j - 1 : Nat) : Int) = (j : Int) - 1 by omega]⟩
              rw [← HI.out, insInner_go lt a j dj hja hlv]
            case measure => simp [intOf]; omega
          | false =>
            rw [hlv] at hl
            go_wp2_with (go_at_fn g; refine hl.mono ?_; rintro e w' ⟨rfl, hbw⟩; have HL : Hid (Loose enc p (w.alloc (.cells #[.func (.func g) #[] lb, .func (.func sf) #[] sb] (ρ.t 44))) blk off dj w') := HW.out.below (by simp; omega) hbw; clear hbw c0 c1)
            go_roundw
            case rel => exact OUT.out (Or.inr hlv) _ HL.out
            case measure => simp [intOf]; omega
        · go_wp2
          go_roundw
          case rel => exact OUT.out (Or.inl (by omega)) _ HW.out
          case measure => simp [intOf]; omega
    · -- the outer loop is at its end
      have hge : ¬ i < b := by assumption
      go_end0
      refine ⟨rfl, ?_⟩
      have e : dk = Sort.insertionSort lt d a b := by unfold Sort.insertionSort; rw [← HO.out, insOuter_stop _ _ _ _ _ hge]
      rw [← e]
      exact Loose.trans (below_alloc' _ _) hblk HWr.out

set_option maxHeartbeats 1600000 in
set_option maxRecDepth 100000 in
theorem stable_loose (L : LaysGt.n15 P ρ) (enc : α → Value) (p : α → Prop) (lt : α → α → Bool) (g : Nat) (lb : Array Value) (sf : Nat) (sb : Array Value) (blk off : Nat) (d : Array α) (W : World)
    (eg : ∀ args w, (callFunc g args).run P w = .ok (.enter g args) w) (hless : LessL P g lb enc p lt blk off d.size W) (hswap : SwapSwaps P sf sb enc blk off d.size)
    (hH : Holds enc W blk off d) (hal : ∀ k, k < d.size → p d[k]!) (hblk : blk < W.heap.size) (h20 : d.size ≤ 20) :
    Calls P (ρ.f 15) #[.agg #[.func (.func g) #[] lb, .func (.func sf) #[] sb], .int .i64 d.size] W fun e w' => e = .returned (.tuple #[]) ∧ Loose enc p W blk off (Sort.insertionSort lt d 0 d.size) w' := by
  have mixed := L.mixed; have t0 := L.t0; have a0 := L.a0; have z0 := L.z0; have v0 := L.v0; have t3 := L.t3; have a3 := L.a3; have z3 := L.z3; have v3 := L.v3; have t4 := L.t4; have a4 := L.a4; have z4 := L.z4; have v4 := L.v4; have t26 := L.t26; have a26 := L.a26; have z26 := L.z26; have v26 := L.v26; have t38 := L.t38; have a38 := L.a38; have z38 := L.z38; have v38 := L.v38; have t42 := L.t42; have a42 := L.a42; have z42 := L.z42; have v42 := L.v42; have t47 := L.t47; have a47 := L.a47; have z47 := L.z47; have v47 := L.v47
  have u42 := run_underlying L.t42
  have e29 : ∀ args w, (callFunc (ρ.f 29) args).run P w = .ok (.enter (ρ.f 29) args) w := enters_of L.f29 (by kernel_rfl) rfl
  have LI : LaysGg.n26 P ρ.viaGt := ({ L with } : LaysGt.n29 P ρ).elder
  have hB := below_alloc' W (.cells #[.func (.func g) #[] lb, .func (.func sf) #[] sb] (ρ.t 42))
  have hc : Calls P (ρ.f 29) #[.agg #[.func (.func g) #[] lb, .func (.func sf) #[] sb], .int .i64 (0 : Nat), .int .i64 d.size] (W.alloc (.cells #[.func (.func g) #[] lb, .func (.func sf) #[] sb] (ρ.t 42))) fun e w' => e = .returned (.tuple #[]) ∧ Loose enc p (W.alloc (.cells #[.func (.func g) #[] lb, .func (.func sf) #[] sb] (ρ.t 42))) blk off (Sort.insertionSort lt d 0 d.size) w' :=
    ins_loose LI enc p lt g lb sf sb blk off 0 d.size d _ eg (hless.on hB hblk) hswap (holds_below hH hblk hB) hal (by simp; omega) (Nat.zero_le _) (Nat.le_refl _) (by omega)
  have hbx : ∀ W', (W.alloc (.cells #[.func (.func g) #[] lb, .func (.func sf) #[] sb] (ρ.t 42))).grownBy W' (some blk) → W'.cell? ⟨W.heap.size, 0, none⟩ = some (.func (.func g) #[] lb) ∧ W'.cell? ⟨W.heap.size, 1, none⟩ = some (.func (.func sf) #[] sb) := fun W' h => by
    have e := h.block W.heap.size (by simp) (fun e => by injection e with e; omega)
    exact ⟨(heap_cell e).1.trans (by simp), (heap_cell e).1.trans (by simp)⟩
  rcases Nat.lt_or_ge d.size 20 with hlt | hge
  · clear hless hswap hH
    have HBX : Hid _ := hbx
    have HB : Hid _ := hB
    clear hbx hB
    go_enter L.f15, BodyGt.n15_ntmps ρ
    go_wp2
    refine wp_loop_rounds 1 ?_
    rw [rounds_succ]
    go_wp2_with (go_at_fn (ρ.f 29); refine hc.mono ?_; rintro e w1 ⟨rfl, hl⟩; have HL : Hid (Loose enc p (W.alloc (.cells #[.func (.func g) #[] lb, .func (.func sf) #[] sb] (ρ.t 42))) blk off (Sort.insertionSort lt d 0 d.size) w1) := hl; clear hl)
    refine wp_loop_rounds 1 ?_
    rw [rounds_succ]
    go_wp2
    all_goals first | (exfalso; omega) | (go_end0; exact ⟨rfl, Loose.trans HB.out hblk HL.out⟩)
  · have h20' : d.size = 20 := by omega
    have hn : ∀ w1, Calls P (ρ.f 29) #[.agg #[.func (.func g) #[] lb, .func (.func sf) #[] sb], .int .i64 (20 : Nat), .int .i64 (20 : Nat)] w1 fun e w' => e = .returned (.tuple #[]) ∧ w' = w1.alloc (.cells #[.func (.func g) #[] lb, .func (.func sf) #[] sb] (ρ.t 42)) := fun w1 =>
      Any.insertionSort_func_none LI (.func g) #[] lb sf sb 20 20 (by omega) (by omega) w1
    rw [h20'] at hc ⊢
    clear hless hswap hH
    have HBX : Hid _ := hbx
    have HB : Hid _ := hB
    clear hbx hB
    go_enter L.f15, BodyGt.n15_ntmps ρ
    go_wp2
    refine wp_loop_rounds 2 ?_
    rw [rounds_succ]
    go_wp2_with (go_at_fn_of (ρ.f 29) (Value.int .i64 0); refine hc.mono ?_; rintro e w1 ⟨rfl, hl⟩; have HL : Hid (Loose enc p (W.alloc (.cells #[.func (.func g) #[] lb, .func (.func sf) #[] sb] (ρ.t 42))) blk off (Sort.insertionSort lt d 0 20) w1) := hl; have hq := HBX.out w1 hl.gr; obtain ⟨bx0, bx1⟩ := hq; clear hl)
    rw [rounds_succ]
    go_wp2_with (go_at_fn (ρ.f 29); refine (hn _).mono ?_; rintro e w2 ⟨rfl, rfl⟩)
    refine wp_loop_rounds 1 ?_
    rw [rounds_succ]
    go_wp2
    go_end0
    exact ⟨rfl, (Loose.trans HB.out hblk HL.out).below hblk (below_alloc' _ _)⟩
/-- sort.SliceStable at 2 to 20 elements, 'less' may lay blocks. -/
theorem slice_loose (L : LaysGt.n8 P ρ) (t e : TypeId) (i ie : TypeInfo) (hi : P.info? t = some i) (hd : i.desc = .slice e) (hpk : P.packed t = false) (hie : P.info? e = some ie) (ke : Nat) (hke : ∀ w, (Extern.Rtype.kind e).run P w = .ok ke w)
    (hs1 : ie.size = 1) (hagg : ∀ w, (isAgg e).run P w = .ok false w) (enc : α → Value) (p : α → Prop) (h1 : ∀ x, (enc x).oneCell' = true) (lt : α → α → Bool) (g : Nat) (lb : Array Value)
    (eg : ∀ args w, (callFunc g args).run P w = .ok (.enter g args) w) (blk off c : Nat) (d : Array α) (h2 : 2 ≤ d.size) (h20 : d.size ≤ 20)
    (f : Nat) (hf : P.funcs.findIdx? (·.name == "internal/reflectlite" ++ ".Swapper$" ++ toString (swapperK d.size ie ke)) = some f)
    (gS : Bool) (hx : ∀ args W, (callFunc f args).run P W = ((Extern.ReflectliteSwapper.swap gS args).run P W).andThen fun v w' => .ok (.value v) w')
    (w : World) (hless : LessL P g lb enc p lt blk off d.size w) (hH : Holds enc w blk off d) (hal : ∀ k, k < d.size → p d[k]!) (hblk : blk < w.heap.size) :
    Calls P (ρ.f 8) #[.iface t (.slice (some ⟨blk, off, none⟩) d.size c), .func (.func g) #[] lb] w fun e w' =>
      e = .returned (.tuple #[]) ∧ Loose enc p w blk off (Sort.insertionSort lt d 0 d.size) w' := by
  refine Any.sort_SliceStable_of_stable L t e i ie hi hd hpk hie ke hke _ d.size c (by omega) f hf (.func g) #[] lb w _ ?_
  have hB : sliceBound P e ie ke (some ⟨blk, off, none⟩) d.size c = #[.slice (some ⟨blk, off, none⟩) d.size c, typeHandle P e] := by
    unfold sliceBound; rw [if_neg (swapperK_gt _ _ _ h2)]
  have hW : Below w.heap.size w (stableWorld P ρ t (some ⟨blk, off, none⟩) d.size c w) := by
    unfold stableWorld
    exact (below_alloc' _ _).alloc (by simp) _
  rw [hB]
  generalize stableWorld P ρ t (some ⟨blk, off, none⟩) d.size c w = w1 at hW
  have hp := stable_loose (P := P) (ρ := ρ) { L with } enc p lt g lb f _ blk off d w1 eg (hless.on hW hblk)
    (swapSwaps_of_literal gS f hx e ie hie hs1 hagg enc h1 blk off d.size c) (holds_below hH hblk hW) hal (Nat.lt_of_lt_of_le hblk hW.size) h20
  refine hp.mono ?_
  rintro e w' ⟨rfl, hl⟩
  exact ⟨rfl, Loose.trans hW hblk hl⟩
end Go.Proofs.SortLoose
