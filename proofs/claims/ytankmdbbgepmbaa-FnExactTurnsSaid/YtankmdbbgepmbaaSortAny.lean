import Derived.Test.YtankmdbbgepmbaaSortLoose
namespace Go.Proofs.SortLoose
open Go.Shelf Go.RowKit Go.Lib Go.Sort Go.Proofs
set_option linter.unusedVariables false
set_option linter.unusedSimpArgs false
set_option linter.unusedSectionVars false
variable {P : Program} {ρ : Ren} {α : Type} [Inhabited α]
def swapR (d : Array α) (a b : Nat) : Nat → Array α
  | 0 => d
  | n + 1 => swp (swapR d a b n) (a + n) (b + n)
theorem size_swapR (d : Array α) (a b : Nat) : ∀ n, (swapR d a b n).size = d.size
  | 0 => rfl
  | n + 1 => by simp only [swapR, size_swp, size_swapR]
theorem Loose.loose {enc : α → Value} {p : α → Prop} {w W W' : World} {blk off : Nat} {dk dk' : Array α} (h : Loose enc p w blk off dk W) (k : Loose enc p W blk off dk' W') : Loose enc p w blk off dk' W' := ⟨grown_trans h.gr k.gr, k.ho, h.sh.trans k.sh, k.al⟩
theorem LessL.on2 {g : Nat} {lb : Array Value} {enc : α → Value} {p : α → Prop} {lt : α → α → Bool} {blk off size : Nat} {w w1 : World} {dk : Array α} (h : LessL P g lb enc p lt blk off size w) (hl : Loose enc p w blk off dk w1) : LessL P g lb enc p lt blk off size w1 :=
  fun W dk' k hs i j hi hj => h W dk' (hl.loose k) hs i j hi hj
set_option maxHeartbeats 2000000 in
set_option maxRecDepth 100000 in
theorem swapRange_any (L : LaysGt.n49 P ρ) (enc : α → Value) (p : α → Prop) (g : Nat) (lb : Array Value) (sf : Nat) (sb : Array Value) (blk off a b n : Nat) (d : Array α) (w : World)
    (hswap : SwapSwaps P sf sb enc blk off d.size) (hH : Holds enc w blk off d) (hal : ∀ k, k < d.size → p d[k]!) (hblk : blk < w.heap.size) (ha : a + n ≤ d.size) (hb : b + n ≤ d.size) (hsz : d.size < 4611686018427387904) :
    Calls P (ρ.f 49) #[.agg #[.func (.func g) #[] lb, .func (.func sf) #[] sb], .int .i64 a, .int .i64 b, .int .i64 n] w fun e w' =>
      e = .returned (.tuple #[]) ∧ Loose enc p w blk off (swapR d a b n) w' := by
  have mixed := L.mixed; have t0 := L.t0; have a0 := L.a0; have z0 := L.z0; have v0 := L.v0; have t3 := L.t3; have a3 := L.a3; have z3 := L.z3; have v3 := L.v3; have t4 := L.t4; have a4 := L.a4; have z4 := L.z4; have v4 := L.v4; have t26 := L.t26; have a26 := L.a26; have z26 := L.z26; have v26 := L.v26; have t38 := L.t38; have a38 := L.a38; have z38 := L.z38; have v38 := L.v38; have t42 := L.t42; have a42 := L.a42; have z42 := L.z42; have v42 := L.v42
  have u42 := run_underlying L.t42
  have hH1 : Loose enc p w blk off d (w.alloc (.cells #[.func (.func g) #[] lb, .func (.func sf) #[] sb] (ρ.t 42))) := (Loose.start hH hal).below hblk (below_alloc' _ _)
  have hbx : ∀ W, (w.alloc (.cells #[.func (.func g) #[] lb, .func (.func sf) #[] sb] (ρ.t 42))).grownBy W (some blk) → W.cell? ⟨w.heap.size, 0, none⟩ = some (.func (.func g) #[] lb) ∧ W.cell? ⟨w.heap.size, 1, none⟩ = some (.func (.func sf) #[] sb) := fun W h => by
    have e := h.block w.heap.size (by simp) (fun e => by injection e with e; omega)
    exact ⟨(heap_cell e).1.trans (by simp), (heap_cell e).1.trans (by simp)⟩
  have HH : Hid _ := hH1
  clear hH1 hH
  go_enter L.f49, BodyGt.n49_ntmps ρ
  go_wp2
  go_loopw [8] (fun vi wr => ∃ (i : Nat), vi = .int .i64 i ∧ i ≤ n ∧ Loose enc p (w.alloc (.cells #[.func (.func g) #[] lb, .func (.func sf) #[] sb] (ρ.t 42))) blk off (swapR d a b i) wr) (fun vi _ => n - (intOf vi).toNat)
  case atStart => exact ⟨0, by go_num, by omega, Loose.start HH.out.ho HH.out.al⟩
  case round =>
    obtain ⟨i, rfl, hin, hwr⟩ := hrel
    have HW : Hid (Loose enc p (w.alloc (.cells #[.func (.func g) #[] lb, .func (.func sf) #[] sb] (ρ.t 42))) blk off (swapR d a b i) wr) := hwr
    obtain ⟨c0, c1⟩ := hbx wr hwr.gr
    clear hwr
    by_cases hlt : i < n
    · have hs := hswap wr (swapR d a b i) HW.out.ho (size_swapR _ _ _ _) (a + i) (b + i) (by omega) (by omega)
      rw [show (((a + i : Nat) : Int)) = (a : Int) + i by omega, show (((b + i : Nat) : Int)) = (b : Int) + i by omega] at hs
      go_wp2
      exact ⟨⟨i + 1, by congr 1, by omega, HW.out.swap (by rw [size_swapR]; omega) (by rw [size_swapR]; omega)⟩, by simp only [intOf]; omega⟩
    · go_wp2
      go_end0
      obtain rfl : i = n := by omega
      exact ⟨rfl, Loose.trans (below_alloc' _ _) hblk HW.out⟩
theorem get_swp (dk : Array α) {i j k : Nat} (hi : i < dk.size) (hj : j < dk.size) (hk : k < dk.size) : (swp dk i j)[k]! = if j = k then dk[i]! else if i = k then dk[j]! else dk[k]! := by
  unfold swp
  simp only [getElem!_def, Array.getElem?_setIfInBounds, Array.size_setIfInBounds]
  by_cases h1 : j = k <;> by_cases h2 : i = k <;> simp [h1, h2, hi, hj, hk]
def swIx (a b n k : Nat) : Nat := if a ≤ k ∧ k < a + n then k + (b - a) else if b ≤ k ∧ k < b + n then k - (b - a) else k
theorem get_swapR (d : Array α) {a b : Nat} : ∀ n, a + n ≤ b → b + n ≤ d.size → ∀ k, k < d.size → (swapR d a b n)[k]! = d[swIx a b n k]!
  | 0, _, _, k, hk => by
    simp only [swapR, swIx]
    rw [if_neg (by omega), if_neg (by omega)]
  | n + 1, h1, h2, k, hk => by
    have ih := get_swapR (a := a) (b := b) d n (by omega) (by omega)
    have e1 := ih (a + n) (by omega)
    have e2 := ih (b + n) (by omega)
    have e3 := ih k hk
    simp only [swapR]
    rw [get_swp (i := a + n) (j := b + n) (k := k) _ (by rw [size_swapR]; omega) (by rw [size_swapR]; omega) (by rw [size_swapR]; omega), e1, e2, e3]
    have f1 : swIx a b n (a + n) = a + n := by unfold swIx; rw [if_neg (by omega), if_neg (by omega)]
    have f2 : swIx a b n (b + n) = b + n := by unfold swIx; rw [if_neg (by omega), if_neg (by omega)]
    rw [f1, f2]
    by_cases c1 : b + n = k
    · rw [if_pos c1]
      congr 1; unfold swIx; (repeat' split) <;> omega
    · rw [if_neg c1]
      by_cases c2 : a + n = k
      · rw [if_pos c2]
        congr 1; unfold swIx; (repeat' split) <;> omega
      · rw [if_neg c2]
        congr 1; unfold swIx; (repeat' split) <;> omega
def rotIx (a m b k : Nat) : Nat := if a ≤ k ∧ k < a + (b - m) then k + (m - a) else if a + (b - m) ≤ k ∧ k < b then k - (b - m) else k
theorem rotIx_lt {a m b k s : Nat} (h1 : a ≤ m) (h2 : m ≤ b) (h3 : b ≤ s) (hk : k < s) : rotIx a m b k < s := by
  unfold rotIx
  split
  · omega
  · split <;> omega
theorem rot_more {m i j k : Nat} (hi : i ≤ m) (h : j < i) (hj : 0 < j) : swIx (m - i) m j (rotIx (m - i + j) m (m + j) k) = rotIx (m - i) m (m + j) k := by
  unfold swIx rotIx
  (repeat' split) <;> omega
theorem rot_less {m i j k : Nat} (hi : i ≤ m) (h : i < j) (h0 : 0 < i) : swIx (m - i) (m + j - i) i (rotIx (m - i) m (m + j - i) k) = rotIx (m - i) m (m + j) k := by
  unfold swIx rotIx
  (repeat' split) <;> omega
theorem rot_same {m i k : Nat} (hi : i ≤ m) : swIx (m - i) m i k = rotIx (m - i) m (m + i) k := by
  unfold swIx rotIx
  (repeat' split) <;> omega
set_option maxHeartbeats 2000000 in
set_option maxRecDepth 100000 in
theorem rotate_any (L : LaysGt.n42 P ρ) (enc : α → Value) (p : α → Prop) (g : Nat) (lb : Array Value) (sf : Nat) (sb : Array Value) (blk off a m b : Nat) (d : Array α) (w : World)
    (hswap : SwapSwaps P sf sb enc blk off d.size) (hH : Holds enc w blk off d) (hal : ∀ k, k < d.size → p d[k]!) (hblk : blk < w.heap.size) (ham : a < m) (hmb : m < b) (hb : b ≤ d.size) (hsz : d.size < 4611686018427387904) :
    Calls P (ρ.f 42) #[.agg #[.func (.func g) #[] lb, .func (.func sf) #[] sb], .int .i64 a, .int .i64 m, .int .i64 b] w fun e w' =>
      e = .returned (.tuple #[]) ∧ ∃ d' : Array α, d'.size = d.size ∧ (∀ k, k < d.size → d'[k]! = d[rotIx a m b k]!) ∧ Loose enc p w blk off d' w' := by
  have mixed := L.mixed; have t0 := L.t0; have a0 := L.a0; have z0 := L.z0; have v0 := L.v0; have t3 := L.t3; have a3 := L.a3; have z3 := L.z3; have v3 := L.v3; have t4 := L.t4; have a4 := L.a4; have z4 := L.z4; have v4 := L.v4; have t26 := L.t26; have a26 := L.a26; have z26 := L.z26; have v26 := L.v26; have t38 := L.t38; have a38 := L.a38; have z38 := L.z38; have v38 := L.v38; have t42 := L.t42; have a42 := L.a42; have z42 := L.z42; have v42 := L.v42
  have u42 := run_underlying L.t42
  have e49 : ∀ args w, (callFunc (ρ.f 49) args).run P w = .ok (.enter (ρ.f 49) args) w := enters_of L.f49 (by kernel_rfl) rfl
  have hH1 : Loose enc p w blk off d (w.alloc (.cells #[.func (.func g) #[] lb, .func (.func sf) #[] sb] (ρ.t 42))) := (Loose.start hH hal).below hblk (below_alloc' _ _)
  have hbx : ∀ W, (w.alloc (.cells #[.func (.func g) #[] lb, .func (.func sf) #[] sb] (ρ.t 42))).grownBy W (some blk) → W.cell? ⟨w.heap.size, 0, none⟩ = some (.func (.func g) #[] lb) ∧ W.cell? ⟨w.heap.size, 1, none⟩ = some (.func (.func sf) #[] sb) := fun W h => by
    have e := h.block w.heap.size (by simp) (fun e => by injection e with e; omega)
    exact ⟨(heap_cell e).1.trans (by simp), (heap_cell e).1.trans (by simp)⟩
  have hblk1 : blk < (w.alloc (.cells #[.func (.func g) #[] lb, .func (.func sf) #[] sb] (ρ.t 42))).heap.size := by simp; omega
  have call : ∀ (wr : World) (dk : Array α) (x y n : Nat), Loose enc p (w.alloc (.cells #[.func (.func g) #[] lb, .func (.func sf) #[] sb] (ρ.t 42))) blk off dk wr → dk.size = d.size → x + n ≤ d.size → y + n ≤ d.size →
      Calls P (ρ.f 49) #[.agg #[.func (.func g) #[] lb, .func (.func sf) #[] sb], .int .i64 x, .int .i64 y, .int .i64 n] wr fun e w' =>
        e = .returned (.tuple #[]) ∧ Loose enc p (w.alloc (.cells #[.func (.func g) #[] lb, .func (.func sf) #[] sb] (ρ.t 42))) blk off (swapR dk x y n) w' := fun wr dk x y n hl hs h1 h2 =>
    (swapRange_any { L with } enc p g lb sf sb blk off x y n dk wr (by rw [hs]; exact hswap) hl.ho hl.al (hl.lt hblk1) (by omega) (by omega) (by omega)).mono fun e w' h => ⟨h.1, hl.loose h.2⟩
  have HH : Hid _ := hH1
  have HBX : Hid _ := hbx
  have CALL : Hid _ := call
  clear hH1 hH hswap hbx call
  go_enter L.f42, BodyGt.n42_ntmps ρ
  go_wp2
  go_loopw [8, 9] (fun vi vj wr => ∃ (i j : Nat) (dk : Array α), vi = .int .i64 i ∧ vj = .int .i64 j ∧ 0 < i ∧ i ≤ m - a ∧ 0 < j ∧ j ≤ b - m ∧ dk.size = d.size ∧ (∀ k, k < d.size → dk[rotIx (m - i) m (m + j) k]! = d[rotIx a m b k]!) ∧
      Loose enc p (w.alloc (.cells #[.func (.func g) #[] lb, .func (.func sf) #[] sb] (ρ.t 42))) blk off dk wr) (fun vi vj _ => (intOf vi).toNat + (intOf vj).toNat)
  case atStart => exact ⟨m - a, b - m, d, by congr 1; omega, by congr 1; omega, by omega, by omega, by omega, by omega, rfl, fun k hk => by rw [show m - (m - a) = a by omega, show m + (b - m) = b by omega], Loose.start HH.out.ho HH.out.al⟩
  case round =>
    obtain ⟨i, j, dk, rfl, rfl, hi0, hi, hj0, hj, hs, hr, hwr⟩ := hrel
    have HW : Hid (Loose enc p (w.alloc (.cells #[.func (.func g) #[] lb, .func (.func sf) #[] sb] (ρ.t 42))) blk off dk wr) := hwr
    have HR : Hid _ := hr
    obtain ⟨c0, c1⟩ := HBX.out wr hwr.gr
    clear hwr hr
    by_cases hne : i = j
    · subst hne
      have hc := CALL.out wr dk (m - i) m i HW.out hs (by omega) (by omega)
      rw [show (((m - i : Nat) : Int)) = (m : Int) - i by omega] at hc
      go_wp2_with (go_at_fn (ρ.f 49); refine hc.mono ?_; rintro e w1 ⟨rfl, hl⟩)
      go_end0
      refine ⟨rfl, swapR dk (m - i) m i, by rw [size_swapR]; exact hs, fun k hk => ?_, Loose.trans (below_alloc' _ _) hblk hl⟩
      rw [get_swapR dk i (by omega) (by omega) k (by omega), rot_same (by omega)]
      exact HR.out k hk
    · by_cases hgt : j < i
      · have hc := CALL.out wr dk (m - i) m j HW.out hs (by omega) (by omega)
        rw [show (((m - i : Nat) : Int)) = (m : Int) - i by omega] at hc
        go_wp2_with (go_at_fn (ρ.f 49); refine hc.mono ?_; rintro e w1 ⟨rfl, hl⟩)
        go_roundw
        case rel =>
          exact ⟨i - j, j, swapR dk (m - i) m j, by congr 1; omega, rfl, by omega, by omega, by omega, by omega, by rw [size_swapR]; exact hs, fun k hk => by
            rw [get_swapR dk j (by omega) (by omega) _ (by rw [hs]; exact rotIx_lt (by omega) (by omega) (by omega) hk), show m - (i - j) = m - i + j by omega, rot_more (by omega) hgt hj0]
            exact HR.out k hk, hl⟩
        case measure => simp only [intOf]; omega
      · have hc := CALL.out wr dk (m - i) (m + j - i) i HW.out hs (by omega) (by omega)
        rw [show (((m - i : Nat) : Int)) = (m : Int) - i by omega, show (((m + j - i : Nat) : Int)) = (m : Int) + j - i by omega] at hc
        go_wp2_with (go_at_fn (ρ.f 49); refine hc.mono ?_; rintro e w1 ⟨rfl, hl⟩)
        go_roundw
        case rel =>
          exact ⟨i, j - i, swapR dk (m - i) (m + j - i) i, rfl, by congr 1; omega, by omega, by omega, by omega, by omega, by rw [size_swapR]; exact hs, fun k hk => by
            rw [get_swapR dk i (by omega) (by omega) _ (by rw [hs]; exact rotIx_lt (by omega) (by omega) (by omega) hk), show m + (j - i) = m + j - i by omega, rot_less (by omega) (by omega) hi0]
            exact HR.out k hk, hl⟩
        case measure => simp only [intOf]; omega
/-- What a merge asks of its two runs: each is in order, and 'less' tells of one of the second and one of the first which comes ahead. -/
structure SymPre (R : α → α → Prop) (lt : α → α → Bool) (d : Array α) (a m b : Nat) : Prop where
  s1 : ∀ i j, a ≤ i → i < j → j < m → R d[i]! d[j]!
  s2 : ∀ i j, m ≤ i → i < j → j < b → R d[i]! d[j]!
  c : ∀ i j, a ≤ i → i < m → m ≤ j → j < b → (lt d[j]! d[i]! = true ∧ R d[j]! d[i]!) ∨ (lt d[j]! d[i]! = false ∧ R d[i]! d[j]!)
structure SymPost (R : α → α → Prop) (d : Array α) (a b : Nat) (d' : Array α) : Prop where
  size : d'.size = d.size
  out : ∀ k, k < d.size → ¬ (a ≤ k ∧ k < b) → d'[k]! = d[k]!
  of : ∀ k, a ≤ k → k < b → ∃ k', a ≤ k' ∧ k' < b ∧ d'[k]! = d[k']!
  so : ∀ i j, a ≤ i → i < j → j < b → R d'[i]! d'[j]!
/-- An order. -/
structure Ord (R : α → α → Prop) : Prop where
  tr : ∀ x y z, R x y → R y z → R x z
  ir : ∀ x, ¬ R x x
theorem Ord.le {R : α → α → Prop} (o : Ord R) {d : Array α} {a b : Nat} (s : ∀ i j, a ≤ i → i < j → j < b → R d[i]! d[j]!) {i j : Nat} {x : α} (h1 : a ≤ i) (h2 : i ≤ j) (h3 : j < b) (h : R d[j]! x) : R d[i]! x := by
  by_cases e : i = j
  · subst e; exact h
  · exact o.tr _ _ _ (s i j h1 (by omega) h3) h
theorem Ord.ge {R : α → α → Prop} (o : Ord R) {d : Array α} {a b : Nat} (s : ∀ i j, a ≤ i → i < j → j < b → R d[i]! d[j]!) {i j : Nat} {x : α} (h1 : a ≤ i) (h2 : i ≤ j) (h3 : j < b) (h : R x d[i]!) : R x d[j]! := by
  by_cases e : i = j
  · subst e; exact h
  · exact o.tr _ _ _ h (s i j h1 (by omega) h3)
theorem SymPre.yes {R : α → α → Prop} (o : Ord R) {lt : α → α → Bool} {d : Array α} {a m b : Nat} (pre : SymPre R lt d a m b) {i j : Nat} (h1 : a ≤ i) (h2 : i < m) (h3 : m ≤ j) (h4 : j < b) : lt d[j]! d[i]! = true ↔ R d[j]! d[i]! := by
  rcases pre.c i j h1 h2 h3 h4 with ⟨x, y⟩ | ⟨x, y⟩
  · exact ⟨fun _ => y, fun _ => x⟩
  · exact ⟨fun h => (by rw [x] at h; cases h), fun h => absurd (o.tr _ _ _ h y) (o.ir _)⟩
theorem SymPre.no {R : α → α → Prop} (o : Ord R) {lt : α → α → Bool} {d : Array α} {a m b : Nat} (pre : SymPre R lt d a m b) {i j : Nat} (h1 : a ≤ i) (h2 : i < m) (h3 : m ≤ j) (h4 : j < b) : lt d[j]! d[i]! = false ↔ R d[i]! d[j]! := by
  rcases pre.c i j h1 h2 h3 h4 with ⟨x, y⟩ | ⟨x, y⟩
  · exact ⟨fun h => (by rw [x] at h; cases h), fun h => absurd (o.tr _ _ _ h y) (o.ir _)⟩
  · exact ⟨fun _ => y, fun _ => x⟩
theorem SymPre.up {R : α → α → Prop} (o : Ord R) {lt : α → α → Bool} {d : Array α} {a m b : Nat} (pre : SymPre R lt d a m b) {i i' h h' : Nat} (h1 : a ≤ i) (h2 : i ≤ i') (h3 : i' < m) (h4 : m ≤ h') (h5 : h' ≤ h) (h6 : h < b) (x : lt d[h]! d[i]! = true) : lt d[h']! d[i']! = true := by
  rw [pre.yes o (by omega) (by omega) (by omega) (by omega)] at x ⊢
  exact o.le pre.s2 h4 h5 h6 (o.ge pre.s1 h1 h2 h3 x)
theorem SymPre.dn {R : α → α → Prop} (o : Ord R) {lt : α → α → Bool} {d : Array α} {a m b : Nat} (pre : SymPre R lt d a m b) {i i' h h' : Nat} (h1 : a ≤ i') (h2 : i' ≤ i) (h3 : i < m) (h4 : m ≤ h) (h5 : h ≤ h') (h6 : h' < b) (x : lt d[h]! d[i]! = false) : lt d[h']! d[i']! = false := by
  rw [pre.no o (by omega) (by omega) (by omega) (by omega)] at x ⊢
  exact o.ge pre.s2 h4 h5 h6 (o.le pre.s1 h1 h2 h3 x)
theorem SymPost.refl {R : α → α → Prop} {d : Array α} {a b : Nat} (s : ∀ i j, a ≤ i → i < j → j < b → R d[i]! d[j]!) : SymPost R d a b d := ⟨rfl, fun _ _ _ => rfl, fun k h1 h2 => ⟨k, h1, h2, rfl⟩, s⟩
/-- One of the first run finds its place. -/
theorem post_one {R : α → α → Prop} (o : Ord R) {lt : α → α → Bool} {d d' : Array α} {a m b i : Nat} (pre : SymPre R lt d a m b) (h1 : m = a + 1) (hb : b ≤ d.size) (h2 : m ≤ i) (h3 : i ≤ b) (lo : ∀ h, m ≤ h → h < i → lt d[h]! d[a]! = true) (hi : ∀ h, i ≤ h → h < b → lt d[h]! d[a]! = false)
    (hs : d'.size = d.size) (hg : ∀ x, x < d.size → d'[x]! = d[rotIx a m i x]!) : SymPost R d a b d' := by
  refine ⟨hs, fun k hk h => ?_, fun k x y => ⟨rotIx a m i k, ?_, ?_, hg k (by omega)⟩, fun x y hx hxy hy => ?_⟩
  · rw [hg k hk]; congr 1; unfold rotIx; (repeat' split) <;> omega
  · unfold rotIx; (repeat' split) <;> omega
  · unfold rotIx; (repeat' split) <;> omega
  · rw [hg x (by omega), hg y (by omega)]
    by_cases c1 : x + 1 < i
    · have e1 : rotIx a m i x = x + 1 := by unfold rotIx; (repeat' split) <;> omega
      rw [e1]
      by_cases c2 : y + 1 < i
      · have e2 : rotIx a m i y = y + 1 := by unfold rotIx; (repeat' split) <;> omega
        rw [e2]; exact pre.s2 _ _ (by omega) (by omega) (by omega)
      · by_cases c3 : y + 1 = i
        · have e2 : rotIx a m i y = a := by unfold rotIx; (repeat' split) <;> omega
          rw [e2]; exact (pre.yes o (Nat.le_refl _) (by omega) (by omega) (by omega)).1 (lo _ (by omega) (by omega))
        · have e2 : rotIx a m i y = y := by unfold rotIx; (repeat' split) <;> omega
          rw [e2]; exact pre.s2 _ _ (by omega) (by omega) (by omega)
    · by_cases c2 : x + 1 = i
      · have e1 : rotIx a m i x = a := by unfold rotIx; (repeat' split) <;> omega
        have e2 : rotIx a m i y = y := by unfold rotIx; (repeat' split) <;> omega
        rw [e1, e2]; exact (pre.no o (Nat.le_refl _) (by omega) (by omega) (by omega)).1 (hi _ (by omega) (by omega))
      · have e1 : rotIx a m i x = x := by unfold rotIx; (repeat' split) <;> omega
        have e2 : rotIx a m i y = y := by unfold rotIx; (repeat' split) <;> omega
        rw [e1, e2]; exact pre.s2 _ _ (by omega) (by omega) (by omega)
theorem post_last {R : α → α → Prop} (o : Ord R) {lt : α → α → Bool} {d d' : Array α} {a m b i : Nat} (pre : SymPre R lt d a m b) (h1 : b = m + 1) (hb : b ≤ d.size) (h2 : a ≤ i) (h3 : i ≤ m) (lo : ∀ h, a ≤ h → h < i → lt d[m]! d[h]! = false) (hi : ∀ h, i ≤ h → h < m → lt d[m]! d[h]! = true)
    (hs : d'.size = d.size) (hg : ∀ x, x < d.size → d'[x]! = d[rotIx i m b x]!) : SymPost R d a b d' := by
  refine ⟨hs, fun k hk h => ?_, fun k x y => ⟨rotIx i m b k, ?_, ?_, hg k (by omega)⟩, fun x y hx hxy hy => ?_⟩
  · rw [hg k hk]; congr 1; unfold rotIx; (repeat' split) <;> omega
  · unfold rotIx; (repeat' split) <;> omega
  · unfold rotIx; (repeat' split) <;> omega
  · rw [hg x (by omega), hg y (by omega)]
    by_cases c1 : x < i
    · have e1 : rotIx i m b x = x := by unfold rotIx; (repeat' split) <;> omega
      rw [e1]
      by_cases c2 : y < i
      · have e2 : rotIx i m b y = y := by unfold rotIx; (repeat' split) <;> omega
        rw [e2]; exact pre.s1 _ _ (by omega) (by omega) (by omega)
      · by_cases c3 : y = i
        · have e2 : rotIx i m b y = m := by unfold rotIx; (repeat' split) <;> omega
          rw [e2]; exact (pre.no o (by omega) (by omega) (by omega) (by omega)).1 (lo _ (by omega) (by omega))
        · have e2 : rotIx i m b y = y - 1 := by unfold rotIx; (repeat' split) <;> omega
          rw [e2]; exact pre.s1 _ _ (by omega) (by omega) (by omega)
    · by_cases c2 : x = i
      · have e1 : rotIx i m b x = m := by unfold rotIx; (repeat' split) <;> omega
        have e2 : rotIx i m b y = y - 1 := by unfold rotIx; (repeat' split) <;> omega
        rw [e1, e2]; exact (pre.yes o (by omega) (by omega) (by omega) (by omega)).1 (hi _ (by omega) (by omega))
      · have e1 : rotIx i m b x = x - 1 := by unfold rotIx; (repeat' split) <;> omega
        have e2 : rotIx i m b y = y - 1 := by unfold rotIx; (repeat' split) <;> omega
        rw [e1, e2]; exact pre.s1 _ _ (by omega) (by omega) (by omega)
/-- Where the two runs are cut. -/
structure CutAt (R : α → α → Prop) (d : Array α) (a m b mid s e : Nat) : Prop where
  h1 : a ≤ s
  h2 : s ≤ m
  h3 : m ≤ e
  h4 : e ≤ b
  h5 : s + e = mid + m
  x : ∀ i j, a ≤ i → i < s → e ≤ j → j < b → R d[i]! d[j]!
  y : ∀ i j, m ≤ i → i < e → s ≤ j → j < m → R d[i]! d[j]!
theorem cut_left {R : α → α → Prop} {d d1 : Array α} {a m b mid s e : Nat} (c : CutAt R d a m b mid s e) (hb : b ≤ d.size) (hg : ∀ k, k < d.size → d1[k]! = d[rotIx s m e k]!) {k : Nat} (h1 : a ≤ k) (h2 : k < mid) : (k < s ∧ d1[k]! = d[k]!) ∨ (s ≤ k ∧ d1[k]! = d[k + (m - s)]!) := by
  have := c.h1; have := c.h2; have := c.h3; have := c.h4; have := c.h5
  rw [hg k (by omega)]
  by_cases h : k < s
  · refine .inl ⟨h, ?_⟩
    congr 1; unfold rotIx; (repeat' split) <;> omega
  · refine .inr ⟨by omega, ?_⟩
    congr 1; unfold rotIx; (repeat' split) <;> omega
theorem cut_right {R : α → α → Prop} {d d1 : Array α} {a m b mid s e : Nat} (c : CutAt R d a m b mid s e) (hb : b ≤ d.size) (hg : ∀ k, k < d.size → d1[k]! = d[rotIx s m e k]!) {k : Nat} (h1 : mid ≤ k) (h2 : k < b) : (k < e ∧ d1[k]! = d[k - (e - m)]!) ∨ (e ≤ k ∧ d1[k]! = d[k]!) := by
  have := c.h1; have := c.h2; have := c.h3; have := c.h4; have := c.h5
  rw [hg k (by omega)]
  by_cases h : k < e
  · refine .inl ⟨h, ?_⟩
    congr 1; unfold rotIx; (repeat' split) <;> omega
  · refine .inr ⟨by omega, ?_⟩
    congr 1; unfold rotIx; (repeat' split) <;> omega
theorem cut_cross {R : α → α → Prop} {lt : α → α → Bool} {d d1 : Array α} {a m b mid s e : Nat} (pre : SymPre R lt d a m b) (c : CutAt R d a m b mid s e) (hb : b ≤ d.size) (hg : ∀ k, k < d.size → d1[k]! = d[rotIx s m e k]!) {i j : Nat} (h1 : a ≤ i) (h2 : i < mid) (h3 : mid ≤ j) (h4 : j < b) : R d1[i]! d1[j]! := by
  have := c.h1; have := c.h2; have := c.h3; have := c.h4; have := c.h5
  rcases cut_left c hb hg h1 h2 with ⟨x, e1⟩ | ⟨x, e1⟩ <;> rcases cut_right c hb hg h3 h4 with ⟨y, e2⟩ | ⟨y, e2⟩ <;> rw [e1, e2]
  · exact pre.s1 _ _ (by omega) (by omega) (by omega)
  · exact c.x _ _ (by omega) (by omega) (by omega) (by omega)
  · exact c.y _ _ (by omega) (by omega) (by omega) (by omega)
  · exact pre.s2 _ _ (by omega) (by omega) (by omega)
theorem cut_pre1 {R : α → α → Prop} {lt : α → α → Bool} {d d1 : Array α} {a m b mid s e : Nat} (pre : SymPre R lt d a m b) (c : CutAt R d a m b mid s e) (hb : b ≤ d.size) (hg : ∀ k, k < d.size → d1[k]! = d[rotIx s m e k]!) : SymPre R lt d1 a s mid := by
  have := c.h1; have := c.h2; have := c.h3; have := c.h4; have := c.h5
  have l : ∀ k, a ≤ k → k < mid → k < s → d1[k]! = d[k]! := fun k x y z => by
    rcases cut_left c hb hg x y with ⟨_, e⟩ | ⟨h, _⟩
    · exact e
    · omega
  have r : ∀ k, a ≤ k → k < mid → s ≤ k → d1[k]! = d[k + (m - s)]! := fun k x y z => by
    rcases cut_left c hb hg x y with ⟨h, _⟩ | ⟨_, e⟩
    · omega
    · exact e
  refine ⟨fun i j x y z => ?_, fun i j x y z => ?_, fun i j x y z t => ?_⟩
  · rw [l i (by omega) (by omega) (by omega), l j (by omega) (by omega) (by omega)]; exact pre.s1 _ _ (by omega) (by omega) (by omega)
  · rw [r i (by omega) (by omega) (by omega), r j (by omega) (by omega) (by omega)]; exact pre.s2 _ _ (by omega) (by omega) (by omega)
  · rw [l i (by omega) (by omega) (by omega), r j (by omega) (by omega) (by omega)]; exact pre.c _ _ (by omega) (by omega) (by omega) (by omega)
theorem cut_pre2 {R : α → α → Prop} {lt : α → α → Bool} {d d1 d2 : Array α} {a m b mid s e : Nat} (pre : SymPre R lt d a m b) (c : CutAt R d a m b mid s e) (hb : b ≤ d.size) (hg : ∀ k, k < d.size → d1[k]! = d[rotIx s m e k]!) (h2 : ∀ k, mid ≤ k → k < b → d2[k]! = d1[k]!) : SymPre R lt d2 mid e b := by
  have := c.h1; have := c.h2; have := c.h3; have := c.h4; have := c.h5
  have l : ∀ k, mid ≤ k → k < b → k < e → d2[k]! = d[k - (e - m)]! := fun k x y z => by
    rw [h2 k x y]
    rcases cut_right c hb hg x y with ⟨_, e⟩ | ⟨h, _⟩
    · exact e
    · omega
  have r : ∀ k, mid ≤ k → k < b → e ≤ k → d2[k]! = d[k]! := fun k x y z => by
    rw [h2 k x y]
    rcases cut_right c hb hg x y with ⟨h, _⟩ | ⟨_, e⟩
    · omega
    · exact e
  refine ⟨fun i j x y z => ?_, fun i j x y z => ?_, fun i j x y z t => ?_⟩
  · rw [l i (by omega) (by omega) (by omega), l j (by omega) (by omega) (by omega)]; exact pre.s1 _ _ (by omega) (by omega) (by omega)
  · rw [r i (by omega) (by omega) (by omega), r j (by omega) (by omega) (by omega)]; exact pre.s2 _ _ (by omega) (by omega) (by omega)
  · rw [l i (by omega) (by omega) (by omega), r j (by omega) (by omega) (by omega)]; exact pre.c _ _ (by omega) (by omega) (by omega) (by omega)
/-- A run of which one part is empty is in order. -/
theorem pre_done {R : α → α → Prop} {lt : α → α → Bool} {d : Array α} {a m b : Nat} (pre : SymPre R lt d a m b) (h : ¬ (a < m ∧ m < b)) (hm : a ≤ m ∧ m ≤ b) : SymPost R d a b d := SymPost.refl (fun i j x y z => by
  by_cases e : a < m
  · exact pre.s1 i j x y (by omega)
  · exact pre.s2 i j (by omega) y z)
theorem cut_post {R : α → α → Prop} {lt : α → α → Bool} {d d1 d2 d3 : Array α} {a m b mid s e : Nat} (pre : SymPre R lt d a m b) (c : CutAt R d a m b mid s e) (hb : b ≤ d.size) (hm : a ≤ mid ∧ mid ≤ b) (hs : d1.size = d.size) (hg : ∀ k, k < d.size → d1[k]! = d[rotIx s m e k]!) (p2 : SymPost R d1 a mid d2) (p3 : SymPost R d2 mid b d3) : SymPost R d a b d3 := by
  have := c.h1; have := c.h2; have := c.h3; have := c.h4; have := c.h5
  have q1 := p2.size
  have q2 := p3.size
  have l : ∀ k, a ≤ k → k < mid → ∃ k', a ≤ k' ∧ k' < mid ∧ d3[k]! = d1[k']! := fun k x y => by
    rw [p3.out k (by omega) (by omega)]
    exact p2.of k x y
  have r : ∀ k, mid ≤ k → k < b → ∃ k', mid ≤ k' ∧ k' < b ∧ d3[k]! = d1[k']! := fun k x y => by
    obtain ⟨k', x1, y1, e⟩ := p3.of k x y
    rw [p2.out k' (by omega) (by omega)] at e
    exact ⟨k', x1, y1, e⟩
  refine ⟨by omega, fun k hk h => ?_, fun k x y => ?_, fun i j x y z => ?_⟩
  · rw [p3.out k (by omega) (by omega), p2.out k (by omega) (by omega), hg k hk]
    congr 1; unfold rotIx; (repeat' split) <;> omega
  · have key : ∃ k', a ≤ k' ∧ k' < b ∧ d3[k]! = d1[k']! := by
      by_cases h : k < mid
      · obtain ⟨k', u, v, e⟩ := l k x h; exact ⟨k', u, by omega, e⟩
      · obtain ⟨k', u, v, e⟩ := r k (by omega) y; exact ⟨k', by omega, v, e⟩
    obtain ⟨k', u, v, e⟩ := key
    refine ⟨rotIx s m _ k', ?_, ?_, e.trans (hg k' (by omega))⟩
    · unfold rotIx; (repeat' split) <;> omega
    · unfold rotIx; (repeat' split) <;> omega
  · by_cases h1 : j < mid
    · rw [p3.out i (by omega) (by omega), p3.out j (by omega) (by omega)]
      exact p2.so i j x y h1
    · by_cases h2 : mid ≤ i
      · exact p3.so i j h2 y z
      · obtain ⟨i', u, v, e1⟩ := l i x (by omega)
        obtain ⟨j', u2, v2, e2⟩ := r j (by omega) z
        rw [e1, e2]
        exact cut_cross pre c hb hg u v u2 v2
theorem cut_of {R : α → α → Prop} (o : Ord R) {lt : α → α → Bool} {d : Array α} {a m b mid s s0 r0 : Nat} (pre : SymPre R lt d a m b) (h1 : a < m) (h2 : m < b) (hmid : mid = (a + b) / 2) (hc : (mid < m ∧ s0 = mid + m - b ∧ r0 = mid) ∨ (m ≤ mid ∧ s0 = a ∧ r0 = m)) (hs : s0 ≤ s) (hr : s ≤ r0)
    (lo : ∀ c, s0 ≤ c → c < s → lt d[mid + m - 1 - c]! d[c]! = false) (hi : ∀ c, s ≤ c → c < r0 → lt d[mid + m - 1 - c]! d[c]! = true) : CutAt R d a m b mid s (mid + m - s) := by
  refine ⟨by omega, by omega, by omega, by omega, by omega, fun i j x y z t => ?_, fun i j x y z t => ?_⟩
  · have h := lo (s - 1) (by omega) (by omega)
    rw [show mid + m - 1 - (s - 1) = mid + m - s by omega, pre.no o (by omega) (by omega) (by omega) (by omega)] at h
    exact o.ge pre.s2 (by omega) z t (o.le pre.s1 x (by omega) (by omega) h)
  · have h := hi s (by omega) (by omega)
    rw [pre.yes o (by omega) (by omega) (by omega) (by omega)] at h
    exact o.ge pre.s1 (by omega) z t (o.le pre.s2 x (by omega) (by omega) h)
theorem ins_inner_post {R : α → α → Prop} (o : Ord R) {lt : α → α → Bool} {a : Nat} : ∀ (j : Nat) (d : Array α), a ≤ j → j + 1 ≤ d.size → SymPre R lt d a j (j + 1) → SymPost R d a (j + 1) (insInner lt a j d)
  | 0, d, ha, hs, pre => by
    simp only [insInner]
    exact SymPost.refl (fun i k x y z => by omega)
  | j + 1, d, ha, hs, pre => by
    unfold insInner
    by_cases hc : j + 1 > a ∧ lt d[j + 1]! d[j]! = true
    · rw [if_pos (by simp [hc.1, hc.2])]
      have g := fun k (hk : k < d.size) => get_swp (i := j + 1) (j := j) (k := k) d (by omega) (by omega) hk
      have gj : (swp d (j + 1) j)[j]! = d[j + 1]! := by rw [g j (by omega), if_pos rfl]
      have gj1 : (swp d (j + 1) j)[j + 1]! = d[j]! := by rw [g (j + 1) (by omega), if_neg (by omega), if_pos rfl]
      have go : ∀ k, k < d.size → k ≠ j → k ≠ j + 1 → (swp d (j + 1) j)[k]! = d[k]! := fun k hk h1 h2 => by rw [g k hk, if_neg (by omega), if_neg (by omega)]
      have pre2 : SymPre R lt (swp d (j + 1) j) a j (j + 1) := by
        refine ⟨fun i k x y z => ?_, fun i k x y z => by omega, fun i k x y z t => ?_⟩
        · rw [go i (by omega) (by omega) (by omega), go k (by omega) (by omega) (by omega)]; exact pre.s1 _ _ x y (by omega)
        · obtain rfl : k = j := by omega
          rw [go i (by omega) (by omega) (by omega), gj]; exact pre.c _ _ x (by omega) (by omega) (by omega)
      have p := ins_inner_post o j (swp d (j + 1) j) (by omega) (by rw [size_swp]; omega) pre2
      have ps := p.size
      rw [size_swp] at ps
      have pl := p.out (j + 1) (by rw [size_swp]; omega) (by omega)
      rw [gj1] at pl
      have of : ∀ k, a ≤ k → k < j + 1 → ∃ k', a ≤ k' ∧ k' < j + 1 + 1 ∧ k' ≠ j ∧ (insInner lt a j (swp d (j + 1) j))[k]! = d[k']! := fun k x y => by
        obtain ⟨k', u, v, e⟩ := p.of k x y
        by_cases h : k' = j
        · subst h; exact ⟨k' + 1, by omega, by omega, by omega, by rw [e, gj]⟩
        · exact ⟨k', u, by omega, h, by rw [e, go k' (by omega) h (by omega)]⟩
      refine ⟨ps, fun k hk h => ?_, fun k x y => ?_, fun i k x y z => ?_⟩
      · rw [p.out k (by rw [size_swp]; exact hk) (by omega), go k hk (by omega) (by omega)]
      · by_cases h : k < j + 1
        · obtain ⟨k', u, v, _, e⟩ := of k x h; exact ⟨k', u, v, e⟩
        · obtain rfl : k = j + 1 := by omega
          exact ⟨j, by omega, by omega, pl⟩
      · by_cases h : k < j + 1
        · exact p.so i k x y h
        · obtain rfl : k = j + 1 := by omega
          rw [pl]
          obtain ⟨k', u, v, w, e⟩ := of i x (by omega)
          rw [e]
          by_cases h2 : k' = j + 1
          · subst h2; exact (pre.yes o (by omega) (by omega) (by omega) (by omega)).1 hc.2
          · exact pre.s1 _ _ u (by omega) (by omega)
    · rw [if_neg (by simpa using hc)]
      refine SymPost.refl (fun i k x y z => ?_)
      by_cases h : k < j + 1
      · exact pre.s1 i k x y h
      · obtain rfl : k = j + 1 := by omega
        have hl : lt d[j + 1]! d[j]! = false := by
          cases hh : lt d[j + 1]! d[j]! with
          | false => rfl
          | true => exact absurd ⟨by omega, hh⟩ hc
        have := (pre.no o (show a ≤ j by omega) (by omega) (Nat.le_refl _) (by omega)).1 hl
        exact o.le pre.s1 x (by omega) (by omega) this
/-- Of any two of a stretch, the later one is told by 'less' to come ahead just where the order says so. -/
def Fair (R : α → α → Prop) (lt : α → α → Bool) (d : Array α) (a b : Nat) : Prop := ∀ i j, a ≤ i → i < j → j < b → (lt d[j]! d[i]! = true ∧ R d[j]! d[i]!) ∨ (lt d[j]! d[i]! = false ∧ R d[i]! d[j]!)
theorem ins_outer_post {R : α → α → Prop} (o : Ord R) {lt : α → α → Bool} {a b : Nat} (d : Array α) (hb : b ≤ d.size) (F : Fair R lt d a b) : ∀ (n i : Nat) (dk : Array α), i + n = b → a ≤ i → SymPost R d a i dk → SymPost R d a b (insOuter lt a b i dk)
  | 0, i, dk, h, ha, p => by
    obtain rfl : i = b := by omega
    unfold insOuter
    rw [if_neg (by omega)]; exact p
  | n + 1, i, dk, h, ha, p => by
    have ps := p.size
    unfold insOuter
    rw [if_pos (by omega)]
    have pre : SymPre R lt dk a i (i + 1) := by
      refine ⟨p.so, fun x y h1 h2 h3 => by omega, fun x y h1 h2 h3 h4 => ?_⟩
      obtain rfl : y = i := by omega
      obtain ⟨x', u, v, e⟩ := p.of x h1 h2
      rw [e, p.out y (by omega) (by omega)]
      exact F x' y u v (by omega)
    have q := ins_inner_post o i dk ha (by omega) pre
    have qs := q.size
    refine ins_outer_post o d hb F n (i + 1) _ (by omega) (by omega) ⟨by omega, fun k hk hn => ?_, fun k x y => ?_, q.so⟩
    · rw [q.out k (by omega) (by omega), p.out k hk (by omega)]
    · obtain ⟨k', u, v, e⟩ := q.of k x y
      by_cases hk : k' < i
      · obtain ⟨k2, u2, v2, e2⟩ := p.of k' u hk
        exact ⟨k2, u2, by omega, e.trans e2⟩
      · rw [p.out k' (by omega) (by omega)] at e
        exact ⟨k', u, v, e⟩
theorem ins_post {R : α → α → Prop} (o : Ord R) {lt : α → α → Bool} {a b : Nat} (d : Array α) (hab : a < b) (hb : b ≤ d.size) (F : Fair R lt d a b) : SymPost R d a b (Sort.insertionSort lt d a b) := by
  unfold Sort.insertionSort
  exact ins_outer_post o d hb F (b - (a + 1)) (a + 1) d (by omega) (by omega) (SymPost.refl (fun i j x y z => by omega))
/-- A stretch that is sorted by itself. -/
structure Runs (R : α → α → Prop) (d dk : Array α) (x y : Nat) : Prop where
  of : ∀ k, x ≤ k → k < y → ∃ k', x ≤ k' ∧ k' < y ∧ dk[k]! = d[k']!
  so : ∀ i j, x ≤ i → i < j → j < y → R dk[i]! dk[j]!
theorem Runs.same {R : α → α → Prop} {d dk d2 : Array α} {x y : Nat} (r : Runs R d dk x y) (h : ∀ k, x ≤ k → k < y → d2[k]! = dk[k]!) : Runs R d d2 x y :=
  ⟨fun k u v => by rw [h k u v]; exact r.of k u v, fun i j u v w => by rw [h i u (by omega), h j (by omega) w]; exact r.so i j u v w⟩
/-- Two stretches side by side may be merged. -/
theorem Runs.pre {R : α → α → Prop} {lt : α → α → Bool} {d dk : Array α} {n x y z : Nat} (F : Fair R lt d 0 n) (hz : z ≤ n) (r1 : Runs R d dk x y) (r2 : Runs R d dk y z) : SymPre R lt dk x y z :=
  ⟨r1.so, r2.so, fun i j a b c e => by
    obtain ⟨i', u, v, e1⟩ := r1.of i a b
    obtain ⟨j', u2, v2, e2⟩ := r2.of j c e
    rw [e1, e2]
    exact F i' j' (Nat.zero_le _) (by omega) (by omega)⟩
theorem Runs.merged {R : α → α → Prop} {d dk d2 : Array α} {x y z : Nat} (hxy : x ≤ y) (hyz : y ≤ z) (r1 : Runs R d dk x y) (r2 : Runs R d dk y z) (p : SymPost R dk x z d2) : Runs R d d2 x z :=
  ⟨fun k u v => by
    obtain ⟨k', a, b, e⟩ := p.of k u v
    by_cases h : k' < y
    · obtain ⟨k2, a2, b2, e2⟩ := r1.of k' a h
      exact ⟨k2, a2, by omega, e.trans e2⟩
    · obtain ⟨k2, a2, b2, e2⟩ := r2.of k' (by omega) b
      exact ⟨k2, by omega, b2, e.trans e2⟩, p.so⟩
theorem Runs.start {R : α → α → Prop} {d dk d2 : Array α} {x y : Nat} (h : ∀ k, x ≤ k → k < y → dk[k]! = d[k]!) (p : SymPost R dk x y d2) : Runs R d d2 x y :=
  ⟨fun k u v => by
    obtain ⟨k', a, b, e⟩ := p.of k u v
    exact ⟨k', a, b, e.trans (h k' a b)⟩, p.so⟩
/-- All stretches of bs elements are sorted. -/
structure Lev (R : α → α → Prop) (d : Array α) (n bs : Nat) (dk : Array α) : Prop where
  sz : dk.size = n
  r : ∀ q, q * bs < n → Runs R d dk (q * bs) (min (q * bs + bs) n)
/-- The first q pairs of stretches are merged. -/
structure Half (R : α → α → Prop) (d : Array α) (n bs q : Nat) (dk : Array α) : Prop where
  sz : dk.size = n
  lo : ∀ k, k < q → Runs R d dk (k * (2 * bs)) (k * (2 * bs) + 2 * bs)
  hi : ∀ k, 2 * q ≤ k → k * bs < n → Runs R d dk (k * bs) (min (k * bs + bs) n)
theorem Lev.half {R : α → α → Prop} {d dk : Array α} {n bs : Nat} (l : Lev R d n bs dk) : Half R d n bs 0 dk := ⟨l.sz, fun k h => by omega, fun k _ h => l.r k h⟩
theorem two_mul' (q bs : Nat) : 2 * q * bs = q * (2 * bs) := by rw [Nat.mul_comm 2 q, Nat.mul_assoc]
theorem succ_mul' (k bs : Nat) : (k + 1) * bs = k * bs + bs := Nat.succ_mul k bs
theorem le_mul' {k q bs : Nat} (h : k < q) : k * bs + bs ≤ q * bs := by
  rw [← succ_mul']; exact Nat.mul_le_mul_right _ h
theorem Half.pair {R : α → α → Prop} {d dk : Array α} {n bs q a z : Nat} (h : Half R d n bs q dk) (ha : a = q * (2 * bs)) (hz : a + bs < z) (hz2 : z = min (a + 2 * bs) n) : Runs R d dk a (a + bs) ∧ Runs R d dk (a + bs) z := by
  have e1 := two_mul' q bs
  have e2 := succ_mul' (2 * q) bs
  have r1 := h.hi (2 * q) (Nat.le_refl _) (by omega)
  have r2 := h.hi (2 * q + 1) (by omega) (by omega)
  rw [e2, e1, ← ha] at r2
  rw [e1, ← ha] at r1
  rw [show min (a + bs) n = a + bs by omega] at r1
  rw [show min (a + bs + bs) n = z by omega] at r2
  exact ⟨r1, r2⟩
theorem Half.step {R : α → α → Prop} {d dk d2 : Array α} {n bs q a b : Nat} (h : Half R d n bs q dk) (ha : a = q * (2 * bs)) (hb : b = a + 2 * bs) (hbs : 0 < bs) (hn : b ≤ n) (p : SymPost R dk a b d2) : Half R d n bs (q + 1) d2 := by
  obtain ⟨r1, r2⟩ := h.pair (z := b) ha (by omega) (by omega)
  have hsz := h.sz
  have ps := p.size
  refine ⟨by omega, fun k hk => ?_, fun k hk hkn => ?_⟩
  · by_cases e : k = q
    · subst e
      rw [← ha, ← hb]
      exact r1.merged (by omega) (by omega) r2 p
    · have := le_mul' (bs := 2 * bs) (show k < q by omega)
      exact (h.lo k (by omega)).same (fun x _ hx => p.out x (by omega) (by omega))
  · have e1 := two_mul' q bs
    have e2 := le_mul' (bs := bs) (show 2 * q + 1 < k by omega)
    have e3 := succ_mul' (2 * q) bs
    exact (h.hi k (by omega) hkn).same (fun x hx hx2 => p.out x (by omega) (by omega))
theorem Half.done {R : α → α → Prop} {d dk d2 : Array α} {n bs q a b : Nat} (h : Half R d n bs q dk) (ha : a = q * (2 * bs)) (hb : b = a + 2 * bs) (hbs : 0 < bs) (han : a ≤ n) (hn : n < b) (p : (a + bs < n ∧ SymPost R dk a n d2) ∨ (n ≤ a + bs ∧ d2 = dk)) : Lev R d n (2 * bs) d2 := by
  have hsz := h.sz
  have same : ∀ x, x < a → d2[x]! = dk[x]! := fun x hx => by
    rcases p with ⟨_, p⟩ | ⟨_, rfl⟩
    · exact p.out x (by omega) (by omega)
    · rfl
  refine ⟨?_, fun k hk => ?_⟩
  · rcases p with ⟨_, p⟩ | ⟨_, rfl⟩
    · rw [p.size]; exact hsz
    · exact hsz
  · by_cases e : k < q
    · have := le_mul' (bs := 2 * bs) e
      rw [show min (k * (2 * bs) + 2 * bs) n = k * (2 * bs) + 2 * bs by omega]
      exact (h.lo k e).same (fun x _ hx => same x (by omega))
    · by_cases e2 : k = q
      · subst e2
        rw [← ha, show min (a + 2 * bs) n = n by omega]
        rcases p with ⟨h1, p⟩ | ⟨h1, rfl⟩
        · obtain ⟨r1, r2⟩ := h.pair (z := n) ha h1 (by omega)
          exact r1.merged (by omega) (by omega) r2 p
        · have e1 := two_mul' k bs
          have r1 := h.hi (2 * k) (Nat.le_refl _) (by omega)
          rw [e1, ← ha, show min (a + bs) n = n by omega] at r1
          exact r1
      · have := le_mul' (bs := 2 * bs) (show q < k by omega)
        omega
theorem Lev.all {R : α → α → Prop} {d dk : Array α} {n bs : Nat} (l : Lev R d n bs dk) (h : n ≤ bs) (hd : d.size = n) : SymPost R d 0 n dk := by
  have hs := l.sz
  by_cases h0 : n = 0
  · exact ⟨by omega, fun k hk _ => by omega, fun k _ hk => by omega, fun i j _ _ hj => by omega⟩
  · have r := l.r 0 (by omega)
    rw [Nat.zero_mul, Nat.zero_add, show min bs n = n by omega] at r
    exact ⟨by omega, fun k hk h => absurd ⟨Nat.zero_le _, by omega⟩ h, r.of, r.so⟩
theorem ins_none {lt : α → α → Bool} (d : Array α) (a : Nat) : Sort.insertionSort lt d a a = d := by
  unfold Sort.insertionSort
  unfold insOuter
  rw [if_neg (by omega)]
/-- The first blocks. -/
structure Blocks (R : α → α → Prop) (d : Array α) (n a : Nat) (dk : Array α) : Prop where
  sz : dk.size = n
  lo : ∀ k, 20 * k + 20 ≤ a → Runs R d dk (20 * k) (20 * k + 20)
  hi : ∀ k, a ≤ k → k < n → dk[k]! = d[k]!
theorem Blocks.fair {R : α → α → Prop} {lt : α → α → Bool} {d dk : Array α} {n a b : Nat} (B : Blocks R d n a dk) (F : Fair R lt d 0 n) (hb : b ≤ n) : Fair R lt dk a b := fun i j x y z => by
  rw [B.hi i x (by omega), B.hi j (by omega) (by omega)]
  exact F i j (by omega) y (by omega)
theorem Blocks.step {R : α → α → Prop} (o : Ord R) {lt : α → α → Bool} {d dk : Array α} {n a b q : Nat} (B : Blocks R d n a dk) (F : Fair R lt d 0 n) (ha : a = 20 * q) (hb : b = a + 20) (hn : b ≤ n) : Blocks R d n b (Sort.insertionSort lt dk a b) := by
  have hs := B.sz
  have p := ins_post o dk (show a < b by omega) (by omega) (B.fair F hn)
  have ps := p.size
  refine ⟨by omega, fun k hk => ?_, fun k h1 h2 => ?_⟩
  · by_cases e : 20 * k + 20 ≤ a
    · exact (B.lo k e).same (fun x _ hx => p.out x (by omega) (by omega))
    · obtain rfl : k = q := by omega
      rw [← ha, ← hb]
      exact Runs.start (fun x h1 h2 => B.hi x h1 (by omega)) p
  · rw [p.out k (by omega) (by omega), B.hi k (by omega) h2]
theorem Blocks.done {R : α → α → Prop} (o : Ord R) {lt : α → α → Bool} {d dk : Array α} {n a q : Nat} (B : Blocks R d n a dk) (F : Fair R lt d 0 n) (ha : a = 20 * q) (han : a ≤ n) (hn : n < a + 20) : Lev R d n 20 (Sort.insertionSort lt dk a n) := by
  have hs := B.sz
  by_cases e : a = n
  · subst e
    rw [ins_none]
    refine ⟨hs, fun k hk => ?_⟩
    have := B.lo k (by omega)
    rw [Nat.mul_comm 20 k] at this
    rw [show min (k * 20 + 20) a = k * 20 + 20 by omega]
    exact this
  · have p := ins_post o dk (show a < n by omega) (by omega) (B.fair F (Nat.le_refl _))
    have ps := p.size
    refine ⟨by omega, fun k hk => ?_⟩
    by_cases h : 20 * k + 20 ≤ a
    · have := (B.lo k h).same (d2 := Sort.insertionSort lt dk a n) (fun x _ hx => p.out x (by omega) (by omega))
      rw [Nat.mul_comm 20 k] at this
      rw [show min (k * 20 + 20) n = k * 20 + 20 by omega]
      exact this
    · rw [show min (k * 20 + 20) n = n by omega, show k * 20 = a by omega]
      exact Runs.start (fun x h1 h2 => B.hi x h1 h2) p
set_option maxHeartbeats 8000000 in
set_option maxRecDepth 100000 in
theorem symMerge_any (L : LaysGt.n30 P ρ) (enc : α → Value) (p : α → Prop) (lt : α → α → Bool) (R : α → α → Prop) (o : Ord R) (g : Nat) (lb : Array Value) (sf : Nat) (sb : Array Value) (blk off size : Nat)
    (eg : ∀ args w, (callFunc g args).run P w = .ok (.enter g args) w) (hswap : SwapSwaps P sf sb enc blk off size) (hsz : size < 2305843009213693952) : ∀ (N a m b : Nat) (d : Array α) (w : World), b - a ≤ N → d.size = size → LessL P g lb enc p lt blk off size w →
    Holds enc w blk off d → (∀ k, k < d.size → p d[k]!) → blk < w.heap.size → a < m → m < b → b ≤ size → SymPre R lt d a m b →
    Calls P (ρ.f 30) #[.agg #[.func (.func g) #[] lb, .func (.func sf) #[] sb], .int .i64 a, .int .i64 m, .int .i64 b] w fun e w' =>
      e = .returned (.tuple #[]) ∧ ∃ d' : Array α, SymPost R d a b d' ∧ Loose enc p w blk off d' w' := by
  intro N
  induction N with
  | zero => intro a m b d w h1 h2 h3 h4 h5 h6 h7 h8; omega
  | succ N IH =>
  intro a m b d w hN hds hless hH hal hblk ham hmb hb pre
  have mixed := L.mixed; have t0 := L.t0; have a0 := L.a0; have z0 := L.z0; have v0 := L.v0; have t3 := L.t3; have a3 := L.a3; have z3 := L.z3; have v3 := L.v3; have t4 := L.t4; have a4 := L.a4; have z4 := L.z4; have v4 := L.v4; have t26 := L.t26; have a26 := L.a26; have z26 := L.z26; have v26 := L.v26; have t38 := L.t38; have a38 := L.a38; have z38 := L.z38; have v38 := L.v38; have t42 := L.t42; have a42 := L.a42; have z42 := L.z42; have v42 := L.v42; have t47 := L.t47; have a47 := L.a47; have z47 := L.z47; have v47 := L.v47
  have u42 := run_underlying L.t42
  have e42 : ∀ args w, (callFunc (ρ.f 42) args).run P w = .ok (.enter (ρ.f 42) args) w := enters_of L.f42 (by kernel_rfl) rfl
  have e30 : ∀ args w, (callFunc (ρ.f 30) args).run P w = .ok (.enter (ρ.f 30) args) w := enters_of L.f30 (by kernel_rfl) rfl
  have hB0 := below_alloc' w (.cells #[.func (.func g) #[] lb, .func (.func sf) #[] sb] (ρ.t 42))
  have hH1 : Loose enc p w blk off d (w.alloc (.cells #[.func (.func g) #[] lb, .func (.func sf) #[] sb] (ρ.t 42))) := (Loose.start hH hal).below hblk hB0
  have hbx : ∀ W, (w.alloc (.cells #[.func (.func g) #[] lb, .func (.func sf) #[] sb] (ρ.t 42))).grownBy W (some blk) → W.cell? ⟨w.heap.size, 0, none⟩ = some (.func (.func g) #[] lb) ∧ W.cell? ⟨w.heap.size, 1, none⟩ = some (.func (.func sf) #[] sb) := fun W h => by
    have e := h.block w.heap.size (by simp) (fun e => by injection e with e; omega)
    exact ⟨(heap_cell e).1.trans (by simp), (heap_cell e).1.trans (by simp)⟩
  have HLESS : Hid _ := (hless.on hB0 hblk)
  have HH : Hid _ := Loose.start hH1.ho hH1.al (w := w.alloc (.cells #[.func (.func g) #[] lb, .func (.func sf) #[] sb] (ρ.t 42)))
  have HBX : Hid _ := hbx
  have PRE : Hid _ := pre
  have HI : Hid _ := IH
  have hB : Hid _ := hB0
  have HSW : Hid _ := hswap
  have LL : Hid _ := L
  clear hless hH hH1 hbx pre IH hswap L hB0
  have hblk1 : blk < (w.alloc (.cells #[.func (.func g) #[] lb, .func (.func sf) #[] sb] (ρ.t 42))).heap.size := by simp; omega
  generalize hw0 : w.alloc (.cells #[.func (.func g) #[] lb, .func (.func sf) #[] sb] (ρ.t 42)) = w0 at *
  by_cases h1 : m - a = 1
  · have hq1 : ((m : Int) - (a : Int) == 1) = true := by rw [beq_iff_eq]; omega
    have hq2 := hq1
    go_enter LL.out.f30, BodyGt.n30_ntmps ρ
    go_wp2
    go_loopw [8, 9] (fun vi vj wr => ∃ (i j : Nat), vi = .int .i64 i ∧ vj = .int .i64 j ∧ m ≤ i ∧ i ≤ j ∧ j ≤ b ∧ (∀ h, m ≤ h → h < i → lt d[h]! d[a]! = true) ∧ (∀ h, j ≤ h → h < b → lt d[h]! d[a]! = false) ∧ Loose enc p w0 blk off d wr) (fun vi vj _ => (intOf vj).toNat - (intOf vi).toNat)
    case atStart => exact ⟨m, b, rfl, rfl, by omega, by omega, by omega, fun h x y => by omega, fun h x y => by omega, HH.out⟩
    case round =>
      obtain ⟨i, j, rfl, rfl, hi, hij, hj, hlo, hhi, hwr⟩ := hrel
      have HW : Hid (Loose enc p w0 blk off d wr) := hwr
      have HLO : Hid _ := hlo
      have HHI : Hid _ := hhi
      obtain ⟨c0, c1⟩ := HBX.out wr hwr.gr
      clear hwr hlo hhi
      by_cases hlt : i < j
      · have hl := HLESS.out wr d HW.out hds ((i + j) / 2) a (by omega) (by omega)
        rw [show (((i + j) / 2 : Nat) : Int) = ((i : Int) + j) / 2 by omega] at hl
        cases hlv : lt d[(i + j) / 2]! d[a]! with
        | true =>
          rw [hlv] at hl
          go_wp2_with (go_at_fn g; refine hl.mono ?_; rintro e w' ⟨rfl, hbw⟩; have HL : Hid (Loose enc p w0 blk off d w') := HW.out.below hblk1 hbw; clear hbw)
          go_roundw
          case rel =>
            exact ⟨(i + j) / 2 + 1, j, by congr 1 <;> omega, rfl, by omega, by omega, hj, fun h x y => by
              exact PRE.out.up o (i := a) (h := (i + j) / 2) (Nat.le_refl _) (Nat.le_refl _) (by omega) x (by omega) (by omega) hlv, HHI.out, HL.out⟩
          case measure => simp [intOf]; omega
        | false =>
          rw [hlv] at hl
          go_wp2_with (go_at_fn g; refine hl.mono ?_; rintro e w' ⟨rfl, hbw⟩; have HL : Hid (Loose enc p w0 blk off d w') := HW.out.below hblk1 hbw; clear hbw)
          go_roundw
          case rel =>
            exact ⟨i, (i + j) / 2, rfl, by congr 1 <;> omega, by omega, by omega, by omega, HLO.out, fun h x y => by
              exact PRE.out.dn o (i := a) (h := (i + j) / 2) (Nat.le_refl _) (Nat.le_refl _) (by omega) (by omega) x y hlv, HL.out⟩
          case measure => simp [intOf]; omega
      · have hij' : i = j := by omega
        subst hij'
        go_wp2
        go_loopw [11] (fun vk wr => ∃ (k : Nat) (dk : Array α), vk = .int .i64 k ∧ a ≤ k ∧ k < i ∧ dk.size = d.size ∧ (∀ x, x < d.size → dk[x]! = d[rotIx a m (k + 1) x]!) ∧ Loose enc p w0 blk off dk wr) (fun vk _ => i - (intOf vk).toNat)
        case atStart => exact ⟨a, d, rfl, Nat.le_refl _, by omega, rfl, fun x hx => by congr 1; unfold rotIx; (repeat' split) <;> omega, HW.out⟩
        case round =>
          obtain ⟨k, dk, rfl, hak, hki, hsk, hgk, hwr⟩ := hrel
          have HK : Hid (Loose enc p w0 blk off dk wr) := hwr
          have HG : Hid _ := hgk
          obtain ⟨c0, c1⟩ := HBX.out wr hwr.gr
          clear hwr hgk
          by_cases hlt2 : k + 1 < i
          · have hs := HSW.out wr dk HK.out.ho (hsk.trans hds) k (k + 1) (by omega) (by omega)
            rw [show (((k + 1 : Nat) : Int)) = (k : Int) + 1 by omega] at hs
            go_wp2
            exact ⟨⟨k + 1, swp dk k (k + 1), by congr 1, by omega, by omega, by rw [size_swp]; exact hsk, fun x hx => by
              rw [get_swp (i := k) (j := k + 1) (k := x) dk (by omega) (by omega) (by omega)]
              split
              · rw [HG.out k (by omega)]; congr 1; unfold rotIx; (repeat' split) <;> omega
              · split
                · rw [HG.out (k + 1) (by omega)]; congr 1; unfold rotIx; (repeat' split) <;> omega
                · rw [HG.out x hx]; congr 1; unfold rotIx; (repeat' split) <;> omega, HK.out.swap (by omega) (by omega)⟩, by simp only [intOf]; omega⟩
          · go_wp2
            refine bodyPost_ret (results_none rfl _ _ _) rfl ?_
            refine ⟨rfl, dk, post_one (i := i) o PRE.out (by omega) (by omega) hi hj HLO.out HHI.out hsk (fun x hx => ?_), Loose.trans hB.out hblk HK.out⟩
            rw [HG.out x hx, show k + 1 = i by omega]
  · by_cases h2 : b - m = 1
    · have hq1 : ((m : Int) - (a : Int) == 1) = false := by rw [beq_eq_false_iff_ne]; omega
      have hq2 : ((b : Int) - (m : Int) == 1) = true := by rw [beq_iff_eq]; omega
      go_enter LL.out.f30, BodyGt.n30_ntmps ρ
      go_wp2
      go_loopw [12, 13] (fun vi vj wr => ∃ (i j : Nat), vi = .int .i64 i ∧ vj = .int .i64 j ∧ a ≤ i ∧ i ≤ j ∧ j ≤ m ∧ (∀ h, a ≤ h → h < i → lt d[m]! d[h]! = false) ∧ (∀ h, j ≤ h → h < m → lt d[m]! d[h]! = true) ∧ Loose enc p w0 blk off d wr) (fun vi vj _ => (intOf vj).toNat - (intOf vi).toNat)
      case atStart => exact ⟨a, m, rfl, rfl, by omega, by omega, by omega, fun h x y => by omega, fun h x y => by omega, HH.out⟩
      case round =>
        obtain ⟨i, j, rfl, rfl, hi, hij, hj, hlo, hhi, hwr⟩ := hrel
        have HW : Hid (Loose enc p w0 blk off d wr) := hwr
        have HLO : Hid _ := hlo
        have HHI : Hid _ := hhi
        obtain ⟨c0, c1⟩ := HBX.out wr hwr.gr
        clear hwr hlo hhi
        by_cases hlt : i < j
        · have hl := HLESS.out wr d HW.out hds m ((i + j) / 2) (by omega) (by omega)
          rw [show (((i + j) / 2 : Nat) : Int) = ((i : Int) + j) / 2 by omega] at hl
          cases hlv : lt d[m]! d[(i + j) / 2]! with
          | false =>
            rw [hlv] at hl
            go_wp2_with (go_at_fn g; refine hl.mono ?_; rintro e w' ⟨rfl, hbw⟩; have HL : Hid (Loose enc p w0 blk off d w') := HW.out.below hblk1 hbw; clear hbw)
            go_roundw
            case rel =>
              exact ⟨(i + j) / 2 + 1, j, by congr 1 <;> omega, rfl, by omega, by omega, hj, fun h x y => by
                exact PRE.out.dn o (i := (i + j) / 2) (h := m) x (by omega) (by omega) (Nat.le_refl _) (Nat.le_refl _) (by omega) hlv, HHI.out, HL.out⟩
            case measure => simp [intOf]; omega
          | true =>
            rw [hlv] at hl
            go_wp2_with (go_at_fn g; refine hl.mono ?_; rintro e w' ⟨rfl, hbw⟩; have HL : Hid (Loose enc p w0 blk off d w') := HW.out.below hblk1 hbw; clear hbw)
            go_roundw
            case rel =>
              exact ⟨i, (i + j) / 2, rfl, by congr 1 <;> omega, by omega, by omega, by omega, HLO.out, fun h x y => by
                exact PRE.out.up o (i := (i + j) / 2) (h := m) (by omega) x y (Nat.le_refl _) (Nat.le_refl _) (by omega) hlv, HL.out⟩
            case measure => simp [intOf]; omega
        · have hij' : i = j := by omega
          subst hij'
          go_wp2
          go_loopw [15] (fun vk wr => ∃ (k : Nat) (dk : Array α), vk = .int .i64 k ∧ i ≤ k ∧ k ≤ m ∧ dk.size = d.size ∧ (∀ x, x < d.size → dk[x]! = d[rotIx k m b x]!) ∧ Loose enc p w0 blk off dk wr) (fun vk _ => (intOf vk).toNat)
          case atStart => exact ⟨m, d, rfl, by omega, Nat.le_refl _, rfl, fun x hx => by congr 1; unfold rotIx; (repeat' split) <;> omega, HW.out⟩
          case round =>
            obtain ⟨k, dk, rfl, hak, hki, hsk, hgk, hwr⟩ := hrel
            have HK : Hid (Loose enc p w0 blk off dk wr) := hwr
            have HG : Hid _ := hgk
            obtain ⟨c0, c1⟩ := HBX.out wr hwr.gr
            clear hwr hgk
            by_cases hlt2 : i < k
            · have hs := HSW.out wr dk HK.out.ho (hsk.trans hds) k (k - 1) (by omega) (by omega)
              rw [show (((k - 1 : Nat) : Int)) = (k : Int) - 1 by omega] at hs
              go_wp2
              exact ⟨⟨k - 1, swp dk k (k - 1), by congr 1 <;> omega, by omega, by omega, by rw [size_swp]; exact hsk, fun x hx => by
                rw [get_swp (i := k) (j := k - 1) (k := x) dk (by omega) (by omega) (by omega)]
                split
                · rw [HG.out k (by omega)]; congr 1; unfold rotIx; (repeat' split) <;> omega
                · split
                  · rw [HG.out (k - 1) (by omega)]; congr 1; unfold rotIx; (repeat' split) <;> omega
                  · rw [HG.out x hx]; congr 1; unfold rotIx; (repeat' split) <;> omega, HK.out.swap (by omega) (by omega)⟩, by simp only [intOf]; omega⟩
            · go_wp2
              refine bodyPost_ret (results_none rfl _ _ _) rfl ?_
              refine ⟨rfl, dk, post_last (i := i) o PRE.out (by omega) (by omega) hi hj HLO.out HHI.out hsk (fun x hx => ?_), Loose.trans hB.out hblk HK.out⟩
              rw [HG.out x hx, show k = i by omega]
    · obtain ⟨mid, hmid⟩ : ∃ mid : Nat, mid = (a + b) / 2 := ⟨_, rfl⟩
      have hq1 : ((m : Int) - (a : Int) == 1) = false := by rw [beq_eq_false_iff_ne]; omega
      have hq2 : ((b : Int) - (m : Int) == 1) = false := by rw [beq_eq_false_iff_ne]; omega
      have rot : ∀ (wr : World) (dk : Array α) (x y z : Nat), Loose enc p w0 blk off dk wr → dk.size = size → x < y → y < z → z ≤ size →
          Calls P (ρ.f 42) #[.agg #[.func (.func g) #[] lb, .func (.func sf) #[] sb], .int .i64 x, .int .i64 y, .int .i64 z] wr fun e w' =>
            e = .returned (.tuple #[]) ∧ ∃ d' : Array α, d'.size = dk.size ∧ (∀ k, k < dk.size → d'[k]! = dk[rotIx x y z k]!) ∧ Loose enc p w0 blk off d' w' := fun wr dk x y z hl hs h1 h2 h3 =>
        (rotate_any (P := P) (ρ := ρ) { LL.out with } enc p g lb sf sb blk off x y z dk wr (by rw [hs]; exact HSW.out) hl.ho hl.al (hl.lt hblk1) h1 h2 (by omega) (by omega)).mono fun e w' ⟨h, d', x, y, z⟩ => ⟨h, d', x, y, hl.loose z⟩
      have rec_ : ∀ (wr : World) (dk : Array α) (x y z : Nat), Loose enc p w0 blk off dk wr → dk.size = size → z - x ≤ N → x < y → y < z → z ≤ size → SymPre R lt dk x y z →
          Calls P (ρ.f 30) #[.agg #[.func (.func g) #[] lb, .func (.func sf) #[] sb], .int .i64 x, .int .i64 y, .int .i64 z] wr fun e w' =>
            e = .returned (.tuple #[]) ∧ ∃ d' : Array α, SymPost R dk x z d' ∧ Loose enc p w0 blk off d' w' := fun wr dk x y z hl hs h0 h1 h2 h3 h4 =>
        (HI.out x y z dk wr h0 hs (LessL.on2 HLESS.out hl) hl.ho hl.al (hl.lt hblk1) h1 h2 h3 h4).mono fun e w' ⟨h, d', x, z⟩ => ⟨h, d', x, hl.loose z⟩
      have ROT : Hid _ := rot
      have REC : Hid _ := rec_
      clear rot rec_
      obtain ⟨s0, r0, hc⟩ : ∃ s0 r0 : Nat, (mid < m ∧ s0 = mid + m - b ∧ r0 = mid) ∨ (m ≤ mid ∧ s0 = a ∧ r0 = m) := by
        by_cases h : mid < m
        · exact ⟨_, _, .inl ⟨h, rfl, rfl⟩⟩
        · exact ⟨_, _, .inr ⟨by omega, rfl, rfl⟩⟩
      have CUT : Hid _ := fun s => cut_of (s := s) (s0 := s0) (r0 := r0) o PRE.out ham hmb hmid hc
      have hc' := hc
      have HC : Hid _ := hc
      have HM : Hid _ := hmid
      clear hc
      rcases hc' with ⟨hm, hs0, hr0⟩ | ⟨hm, hs0, hr0⟩
      all_goals
        rw [hmid] at hm
        clear hs0 hr0 hmid
        first | have hq3 : decide (((a : Int) + (b : Int)) / 2 < (m : Int)) = true := decide_eq_true (by omega) | have hq3 : decide (((a : Int) + (b : Int)) / 2 < (m : Int)) = false := decide_eq_false (by omega)
        go_enter LL.out.f30, BodyGt.n30_ntmps ρ
        go_wp2
        go_loopw [18, 19] (fun vi vj wr => ∃ (s r : Nat), vi = .int .i64 s ∧ vj = .int .i64 r ∧ s0 ≤ s ∧ s ≤ r ∧ r ≤ r0 ∧ (∀ c, s0 ≤ c → c < s → lt d[mid + m - 1 - c]! d[c]! = false) ∧ (∀ c, r ≤ c → c < r0 → lt d[mid + m - 1 - c]! d[c]! = true) ∧ Loose enc p w0 blk off d wr) (fun vi vj _ => (intOf vj).toNat - (intOf vi).toNat)
        case atStart =>
          have h8 := HC.out
          have h9 := HM.out
          exact ⟨s0, r0, by congr 1 <;> omega, by congr 1 <;> omega, by omega, by omega, by omega, fun h x y => by omega, fun h x y => by omega, HH.out⟩
        case round =>
          obtain ⟨s, r, rfl, rfl, hi, hij, hj, hlo, hhi, hwr⟩ := hrel
          have HW : Hid (Loose enc p w0 blk off d wr) := hwr
          have HLO : Hid _ := hlo
          have HHI : Hid _ := hhi
          obtain ⟨c0, c1⟩ := HBX.out wr hwr.gr
          have hb0 : r ≤ m ∧ r0 + s0 ≤ mid + m ∧ r0 ≤ m ∧ r0 ≤ mid ∧ mid + m ≤ s0 + b ∧ a ≤ s0 := by
            have h8 := HC.out
            have h9 := HM.out
            omega
          have HB0 : Hid _ := hb0
          clear hwr hlo hhi hb0
          by_cases hlt : s < r
          · have hl := HLESS.out wr d HW.out hds (mid + m - 1 - (s + r) / 2) ((s + r) / 2) (by have := HB0.out; have := HM.out; omega) (by have := HB0.out; omega)
            rw [show ((mid + m - 1 - (s + r) / 2 : Nat) : Int) = ((a : Int) + b) / 2 + m - 1 - ((s : Int) + r) / 2 by have := HB0.out; have := HM.out; omega, show (((s + r) / 2 : Nat) : Int) = ((s : Int) + r) / 2 by omega] at hl
            have hr1 : (s + r) / 2 < m ∧ (s + r) / 2 < (a + b) / 2 := by have := HB0.out; have := HM.out; omega
            cases hlv : lt d[mid + m - 1 - (s + r) / 2]! d[(s + r) / 2]! with
            | false =>
              rw [hlv] at hl
              go_wp2_with (go_at_fn g; refine hl.mono ?_; rintro e w' ⟨rfl, hbw⟩; have HL : Hid (Loose enc p w0 blk off d w') := HW.out.below hblk1 hbw; clear hbw)
              go_roundw
              case rel =>
                have h8 := HB0.out
                have h9 := HM.out
                have h7 := HC.out
                exact ⟨(s + r) / 2 + 1, r, by congr 1 <;> omega, rfl, by omega, by omega, hj, fun h x y => PRE.out.dn o (i := (s + r) / 2) (h := mid + m - 1 - (s + r) / 2) (by omega) (by omega) (by omega) (by omega) (by omega) (by omega) hlv, HHI.out, HL.out⟩
              case measure => simp [intOf]; omega
            | true =>
              rw [hlv] at hl
              go_wp2_with (go_at_fn g; refine hl.mono ?_; rintro e w' ⟨rfl, hbw⟩; have HL : Hid (Loose enc p w0 blk off d w') := HW.out.below hblk1 hbw; clear hbw)
              go_roundw
              case rel =>
                have h8 := HB0.out
                have h9 := HM.out
                have h7 := HC.out
                exact ⟨s, (s + r) / 2, rfl, by congr 1 <;> omega, by omega, by omega, by omega, HLO.out, fun h x y => PRE.out.up o (i := (s + r) / 2) (h := mid + m - 1 - (s + r) / 2) (by omega) (by omega) (by omega) (by omega) (by omega) (by omega) hlv, HL.out⟩
              case measure => simp [intOf]; omega
          · have hsr : r = s := by omega
            subst hsr
            have h8 := HC.out
            have h9 := HM.out
            have hbb := HB0.out
            have Q1 : Hid (((mid : Nat) : Int) = ((a : Int) + b) / 2) := (by omega : ((mid : Nat) : Int) = ((a : Int) + b) / 2)
            have Q2 : Hid (((mid + m - r : Nat) : Int) = ((a : Int) + b) / 2 + m - r) := (by omega : ((mid + m - r : Nat) : Int) = ((a : Int) + b) / 2 + m - r)
            have HCUT : Hid (CutAt R d a m b mid r (mid + m - r)) := CUT.out r hi hj HLO.out HHI.out
            have hn1 : r ≤ m ∧ r ≤ (a + b) / 2 ∧ a ≤ r ∧ (a + b) / 2 + m ≤ r + b := by omega
            have HN : Hid (d.size = size ∧ mid = (a + b) / 2) := ⟨hds, h9⟩
            clear h8 h9 hbb
            by_cases hcA : r < m
            · by_cases hcB : r < (a + b) / 2
              · by_cases hcC : a < r
                · by_cases hcD : (a + b) / 2 + m < r + b
                  · go_wp2_with (first | (go_at_fn (ρ.f 42); have hc1 := ROT.out wr d r m (mid + m - r) HW.out hds (by have := HN.out; omega) (by have := HN.out; omega) (by have := HN.out; omega); rw [Q2.out] at hc1; refine hc1.mono ?_; clear hc1; rintro e w1 ⟨rfl, d1, hs1, hg1, hl1⟩; have HS1 : Hid _ := hs1; have HG1 : Hid _ := hg1; have HL1 : Hid _ := hl1; obtain ⟨c2, c3⟩ := HBX.out w1 hl1.gr; clear hg1 hl1 hs1) | (go_at_fn (ρ.f 30); have hc2 := REC.out w1 d1 a r mid HL1.out (HS1.out.trans hds) (by have := HN.out; omega) (by have := HN.out; omega) (by have := HN.out; omega) (by have := HN.out; omega) (cut_pre1 PRE.out HCUT.out (by have := HN.out; omega) HG1.out); rw [Q1.out] at hc2; refine hc2.mono ?_; clear hc2; rintro e w2 ⟨rfl, d2, hp2, hl2⟩; have HP2 : Hid _ := hp2; have HL2 : Hid _ := hl2; obtain ⟨c4, c5⟩ := HBX.out w2 hl2.gr; clear hp2 hl2) | (go_at_fn (ρ.f 30); have hc3 := REC.out w2 d2 mid (mid + m - r) b HL2.out (HP2.out.size.trans (HS1.out.trans hds)) (by have := HN.out; omega) (by have := HN.out; omega) (by have := HN.out; omega) (by have := HN.out; omega) (cut_pre2 PRE.out HCUT.out (by have := HN.out; omega) HG1.out (fun k x y => HP2.out.out k (by have := HN.out; have := HS1.out; omega) (by omega))); rw [Q1.out, Q2.out] at hc3; refine hc3.mono ?_; clear hc3; rintro e w3 ⟨rfl, d3, hp3, hl3⟩; have HP3 : Hid _ := hp3; have HL3 : Hid _ := hl3; clear hp3 hl3))
                    all_goals go_end0
                    all_goals exact ⟨rfl, d3, cut_post PRE.out HCUT.out (by have := HN.out; omega) (by have := HN.out; omega) HS1.out HG1.out HP2.out HP3.out, Loose.trans hB.out hblk HL3.out⟩
                  · go_wp2_with (first | (go_at_fn (ρ.f 42); have hc1 := ROT.out wr d r m (mid + m - r) HW.out hds (by have := HN.out; omega) (by have := HN.out; omega) (by have := HN.out; omega); rw [Q2.out] at hc1; refine hc1.mono ?_; clear hc1; rintro e w1 ⟨rfl, d1, hs1, hg1, hl1⟩; have HS1 : Hid _ := hs1; have HG1 : Hid _ := hg1; have HL1 : Hid _ := hl1; obtain ⟨c2, c3⟩ := HBX.out w1 hl1.gr; clear hg1 hl1 hs1) | (go_at_fn (ρ.f 30); have hc2 := REC.out w1 d1 a r mid HL1.out (HS1.out.trans hds) (by have := HN.out; omega) (by have := HN.out; omega) (by have := HN.out; omega) (by have := HN.out; omega) (cut_pre1 PRE.out HCUT.out (by have := HN.out; omega) HG1.out); rw [Q1.out] at hc2; refine hc2.mono ?_; clear hc2; rintro e w2 ⟨rfl, d2, hp2, hl2⟩; have HP2 : Hid _ := hp2; have HL2 : Hid _ := hl2; obtain ⟨c4, c5⟩ := HBX.out w2 hl2.gr; clear hp2 hl2))
                    all_goals go_end0
                    all_goals have HP3 : Hid (SymPost R d2 mid b d2) := pre_done (cut_pre2 (d2 := d2) PRE.out HCUT.out (by have := HN.out; omega) HG1.out (fun k x y => HP2.out.out k (by have := HN.out; have := HS1.out; omega) (by omega))) (by have := HN.out; omega) (by have := HN.out; omega)
                    all_goals have HL3 : Hid _ := HL2.out
                    all_goals exact ⟨rfl, d2, cut_post PRE.out HCUT.out (by have := HN.out; omega) (by have := HN.out; omega) HS1.out HG1.out HP2.out HP3.out, Loose.trans hB.out hblk HL3.out⟩
                · by_cases hcD : (a + b) / 2 + m < r + b
                  · go_wp2_with (first | (go_at_fn (ρ.f 42); have hc1 := ROT.out wr d r m (mid + m - r) HW.out hds (by have := HN.out; omega) (by have := HN.out; omega) (by have := HN.out; omega); rw [Q2.out] at hc1; refine hc1.mono ?_; clear hc1; rintro e w1 ⟨rfl, d1, hs1, hg1, hl1⟩; have HS1 : Hid _ := hs1; have HG1 : Hid _ := hg1; have HL1 : Hid _ := hl1; obtain ⟨c2, c3⟩ := HBX.out w1 hl1.gr; clear hg1 hl1 hs1) | (go_at_fn (ρ.f 30); have HP2 : Hid (SymPost R d1 a mid d1) := pre_done (cut_pre1 PRE.out HCUT.out (by have := HN.out; omega) HG1.out) (by have := HN.out; omega) (by have := HN.out; omega); have HL2 : Hid _ := HL1.out; have hc3 := REC.out w1 d1 mid (mid + m - r) b HL2.out (HP2.out.size.trans (HS1.out.trans hds)) (by have := HN.out; omega) (by have := HN.out; omega) (by have := HN.out; omega) (by have := HN.out; omega) (cut_pre2 PRE.out HCUT.out (by have := HN.out; omega) HG1.out (fun k x y => HP2.out.out k (by have := HN.out; have := HS1.out; omega) (by omega))); rw [Q1.out, Q2.out] at hc3; refine hc3.mono ?_; clear hc3; rintro e w3 ⟨rfl, d3, hp3, hl3⟩; have HP3 : Hid _ := hp3; have HL3 : Hid _ := hl3; clear hp3 hl3))
                    all_goals go_end0
                    all_goals exact ⟨rfl, d3, cut_post PRE.out HCUT.out (by have := HN.out; omega) (by have := HN.out; omega) HS1.out HG1.out HP2.out HP3.out, Loose.trans hB.out hblk HL3.out⟩
                  · go_wp2_with (first | (go_at_fn (ρ.f 42); have hc1 := ROT.out wr d r m (mid + m - r) HW.out hds (by have := HN.out; omega) (by have := HN.out; omega) (by have := HN.out; omega); rw [Q2.out] at hc1; refine hc1.mono ?_; clear hc1; rintro e w1 ⟨rfl, d1, hs1, hg1, hl1⟩; have HS1 : Hid _ := hs1; have HG1 : Hid _ := hg1; have HL1 : Hid _ := hl1; obtain ⟨c2, c3⟩ := HBX.out w1 hl1.gr; clear hg1 hl1 hs1))
                    all_goals go_end0
                    all_goals have HP2 : Hid (SymPost R d1 a mid d1) := pre_done (cut_pre1 PRE.out HCUT.out (by have := HN.out; omega) HG1.out) (by have := HN.out; omega) (by have := HN.out; omega)
                    all_goals have HL2 : Hid _ := HL1.out
                    all_goals have HP3 : Hid (SymPost R d1 mid b d1) := pre_done (cut_pre2 (d2 := d1) PRE.out HCUT.out (by have := HN.out; omega) HG1.out (fun k x y => HP2.out.out k (by have := HN.out; have := HS1.out; omega) (by omega))) (by have := HN.out; omega) (by have := HN.out; omega)
                    all_goals have HL3 : Hid _ := HL2.out
                    all_goals exact ⟨rfl, d1, cut_post PRE.out HCUT.out (by have := HN.out; omega) (by have := HN.out; omega) HS1.out HG1.out HP2.out HP3.out, Loose.trans hB.out hblk HL3.out⟩
              · have hcC : a < r := by omega
                by_cases hcD : (a + b) / 2 + m < r + b
                · have HG1 : Hid (∀ k, k < d.size → d[k]! = d[rotIx r m (mid + m - r) k]!) := fun k _ => by have := HN.out; congr 1; unfold rotIx; (repeat' split) <;> omega
                  have HL1 : Hid (Loose enc p w0 blk off d wr) := HW.out
                  go_wp2_with (first | (go_at_fn (ρ.f 30); have HP2 : Hid (SymPost R d a mid d) := pre_done (cut_pre1 PRE.out HCUT.out (by have := HN.out; omega) HG1.out) (by have := HN.out; omega) (by have := HN.out; omega); have HL2 : Hid _ := HL1.out; have hc3 := REC.out wr d mid (mid + m - r) b HL2.out (HP2.out.size.trans (hds)) (by have := HN.out; omega) (by have := HN.out; omega) (by have := HN.out; omega) (by have := HN.out; omega) (cut_pre2 PRE.out HCUT.out (by have := HN.out; omega) HG1.out (fun k x y => HP2.out.out k (by have := HN.out; omega) (by omega))); rw [Q1.out, Q2.out] at hc3; refine hc3.mono ?_; clear hc3; rintro e w3 ⟨rfl, d3, hp3, hl3⟩; have HP3 : Hid _ := hp3; have HL3 : Hid _ := hl3; clear hp3 hl3))
                  all_goals go_end0
                  all_goals exact ⟨rfl, d3, cut_post PRE.out HCUT.out (by have := HN.out; omega) (by have := HN.out; omega) (rfl : d.size = d.size) HG1.out HP2.out HP3.out, Loose.trans hB.out hblk HL3.out⟩
                · have HG1 : Hid (∀ k, k < d.size → d[k]! = d[rotIx r m (mid + m - r) k]!) := fun k _ => by have := HN.out; congr 1; unfold rotIx; (repeat' split) <;> omega
                  have HL1 : Hid (Loose enc p w0 blk off d wr) := HW.out
                  go_wp2
                  all_goals go_end0
                  all_goals have HP2 : Hid (SymPost R d a mid d) := pre_done (cut_pre1 PRE.out HCUT.out (by have := HN.out; omega) HG1.out) (by have := HN.out; omega) (by have := HN.out; omega)
                  all_goals have HL2 : Hid _ := HL1.out
                  all_goals have HP3 : Hid (SymPost R d mid b d) := pre_done (cut_pre2 (d2 := d) PRE.out HCUT.out (by have := HN.out; omega) HG1.out (fun k x y => HP2.out.out k (by have := HN.out; omega) (by omega))) (by have := HN.out; omega) (by have := HN.out; omega)
                  all_goals have HL3 : Hid _ := HL2.out
                  all_goals exact ⟨rfl, d, cut_post PRE.out HCUT.out (by have := HN.out; omega) (by have := HN.out; omega) (rfl : d.size = d.size) HG1.out HP2.out HP3.out, Loose.trans hB.out hblk HL3.out⟩
            · by_cases hcB : r < (a + b) / 2
              · by_cases hcC : a < r
                · have HG1 : Hid (∀ k, k < d.size → d[k]! = d[rotIx r m (mid + m - r) k]!) := fun k _ => by have := HN.out; congr 1; unfold rotIx; (repeat' split) <;> omega
                  have HL1 : Hid (Loose enc p w0 blk off d wr) := HW.out
                  go_wp2_with (first | (go_at_fn (ρ.f 30); have hc2 := REC.out wr d a r mid HL1.out (hds) (by have := HN.out; omega) (by have := HN.out; omega) (by have := HN.out; omega) (by have := HN.out; omega) (cut_pre1 PRE.out HCUT.out (by have := HN.out; omega) HG1.out); rw [Q1.out] at hc2; refine hc2.mono ?_; clear hc2; rintro e w2 ⟨rfl, d2, hp2, hl2⟩; have HP2 : Hid _ := hp2; have HL2 : Hid _ := hl2; obtain ⟨c4, c5⟩ := HBX.out w2 hl2.gr; clear hp2 hl2))
                  all_goals go_end0
                  all_goals have HP3 : Hid (SymPost R d2 mid b d2) := pre_done (cut_pre2 (d2 := d2) PRE.out HCUT.out (by have := HN.out; omega) HG1.out (fun k x y => HP2.out.out k (by have := HN.out; omega) (by omega))) (by have := HN.out; omega) (by have := HN.out; omega)
                  all_goals have HL3 : Hid _ := HL2.out
                  all_goals exact ⟨rfl, d2, cut_post PRE.out HCUT.out (by have := HN.out; omega) (by have := HN.out; omega) (rfl : d.size = d.size) HG1.out HP2.out HP3.out, Loose.trans hB.out hblk HL3.out⟩
                · have HG1 : Hid (∀ k, k < d.size → d[k]! = d[rotIx r m (mid + m - r) k]!) := fun k _ => by have := HN.out; congr 1; unfold rotIx; (repeat' split) <;> omega
                  have HL1 : Hid (Loose enc p w0 blk off d wr) := HW.out
                  go_wp2
                  all_goals go_end0
                  all_goals have HP2 : Hid (SymPost R d a mid d) := pre_done (cut_pre1 PRE.out HCUT.out (by have := HN.out; omega) HG1.out) (by have := HN.out; omega) (by have := HN.out; omega)
                  all_goals have HL2 : Hid _ := HL1.out
                  all_goals have HP3 : Hid (SymPost R d mid b d) := pre_done (cut_pre2 (d2 := d) PRE.out HCUT.out (by have := HN.out; omega) HG1.out (fun k x y => HP2.out.out k (by have := HN.out; omega) (by omega))) (by have := HN.out; omega) (by have := HN.out; omega)
                  all_goals have HL3 : Hid _ := HL2.out
                  all_goals exact ⟨rfl, d, cut_post PRE.out HCUT.out (by have := HN.out; omega) (by have := HN.out; omega) (rfl : d.size = d.size) HG1.out HP2.out HP3.out, Loose.trans hB.out hblk HL3.out⟩
              · have hcC : a < r := by omega
                have HG1 : Hid (∀ k, k < d.size → d[k]! = d[rotIx r m (mid + m - r) k]!) := fun k _ => by have := HN.out; congr 1; unfold rotIx; (repeat' split) <;> omega
                have HL1 : Hid (Loose enc p w0 blk off d wr) := HW.out
                go_wp2
                all_goals go_end0
                all_goals have HP2 : Hid (SymPost R d a mid d) := pre_done (cut_pre1 PRE.out HCUT.out (by have := HN.out; omega) HG1.out) (by have := HN.out; omega) (by have := HN.out; omega)
                all_goals have HL2 : Hid _ := HL1.out
                all_goals have HP3 : Hid (SymPost R d mid b d) := pre_done (cut_pre2 (d2 := d) PRE.out HCUT.out (by have := HN.out; omega) HG1.out (fun k x y => HP2.out.out k (by have := HN.out; omega) (by omega))) (by have := HN.out; omega) (by have := HN.out; omega)
                all_goals have HL3 : Hid _ := HL2.out
                all_goals exact ⟨rfl, d, cut_post PRE.out HCUT.out (by have := HN.out; omega) (by have := HN.out; omega) (rfl : d.size = d.size) HG1.out HP2.out HP3.out, Loose.trans hB.out hblk HL3.out⟩
set_option maxHeartbeats 8000000 in
set_option maxRecDepth 100000 in
/-- sort.stable_func at any length. -/
theorem stable_any (L : LaysGt.n15 P ρ) (enc : α → Value) (p : α → Prop) (lt : α → α → Bool) (R : α → α → Prop) (o : Ord R) (g : Nat) (lb : Array Value) (sf : Nat) (sb : Array Value) (blk off : Nat) (d : Array α) (n : Nat) (hn : d.size = n) (w : World)
    (eg : ∀ args w, (callFunc g args).run P w = .ok (.enter g args) w) (hless : LessL P g lb enc p lt blk off n w) (hswap : SwapSwaps P sf sb enc blk off n)
    (hH : Holds enc w blk off d) (hal : ∀ k, k < d.size → p d[k]!) (hblk : blk < w.heap.size) (F : Fair R lt d 0 n) (hsz : n < 1152921504606846976) :
    Calls P (ρ.f 15) #[.agg #[.func (.func g) #[] lb, .func (.func sf) #[] sb], .int .i64 n] w fun e w' => e = .returned (.tuple #[]) ∧ ∃ d' : Array α, SymPost R d 0 n d' ∧ Loose enc p w blk off d' w' := by
  have mixed := L.mixed; have t0 := L.t0; have a0 := L.a0; have z0 := L.z0; have v0 := L.v0; have t3 := L.t3; have a3 := L.a3; have z3 := L.z3; have v3 := L.v3; have t4 := L.t4; have a4 := L.a4; have z4 := L.z4; have v4 := L.v4; have t26 := L.t26; have a26 := L.a26; have z26 := L.z26; have v26 := L.v26; have t38 := L.t38; have a38 := L.a38; have z38 := L.z38; have v38 := L.v38; have t42 := L.t42; have a42 := L.a42; have z42 := L.z42; have v42 := L.v42; have t47 := L.t47; have a47 := L.a47; have z47 := L.z47; have v47 := L.v47
  have u42 := run_underlying L.t42
  have e29 : ∀ args w, (callFunc (ρ.f 29) args).run P w = .ok (.enter (ρ.f 29) args) w := enters_of L.f29 (by kernel_rfl) rfl
  have e30 : ∀ args w, (callFunc (ρ.f 30) args).run P w = .ok (.enter (ρ.f 30) args) w := enters_of L.f30 (by kernel_rfl) rfl
  have hB0 := below_alloc' w (.cells #[.func (.func g) #[] lb, .func (.func sf) #[] sb] (ρ.t 42))
  have hH1 : Loose enc p w blk off d (w.alloc (.cells #[.func (.func g) #[] lb, .func (.func sf) #[] sb] (ρ.t 42))) := (Loose.start hH hal).below hblk hB0
  have hbx : ∀ W, (w.alloc (.cells #[.func (.func g) #[] lb, .func (.func sf) #[] sb] (ρ.t 42))).grownBy W (some blk) → W.cell? ⟨w.heap.size, 0, none⟩ = some (.func (.func g) #[] lb) ∧ W.cell? ⟨w.heap.size, 1, none⟩ = some (.func (.func sf) #[] sb) := fun W h => by
    have e := h.block w.heap.size (by simp) (fun e => by injection e with e; omega)
    exact ⟨(heap_cell e).1.trans (by simp), (heap_cell e).1.trans (by simp)⟩
  have hblk1 : blk < (w.alloc (.cells #[.func (.func g) #[] lb, .func (.func sf) #[] sb] (ρ.t 42))).heap.size := by simp; omega
  have hl1 := hless.on hB0 hblk
  have HH : Hid _ := Loose.start hH1.ho hH1.al (w := w.alloc (.cells #[.func (.func g) #[] lb, .func (.func sf) #[] sb] (ρ.t 42)))
  generalize hw0 : w.alloc (.cells #[.func (.func g) #[] lb, .func (.func sf) #[] sb] (ρ.t 42)) = w0 at *
  have LI : LaysGg.n26 P ρ.viaGt := ({ L with } : LaysGt.n29 P ρ).elder
  have ins : ∀ (wr : World) (dk : Array α) (x y : Nat), Loose enc p w0 blk off dk wr → dk.size = n → x ≤ y → y ≤ n →
      Calls P (ρ.f 29) #[.agg #[.func (.func g) #[] lb, .func (.func sf) #[] sb], .int .i64 x, .int .i64 y] wr fun e w' => e = .returned (.tuple #[]) ∧ Loose enc p w0 blk off (Sort.insertionSort lt dk x y) w' := fun wr dk x y hl hs h1 h2 => by
    have h := ins_loose LI enc p lt g lb sf sb blk off x y dk wr eg (by rw [hs]; exact LessL.on2 hl1 hl) (by rw [hs]; exact hswap) hl.ho hl.al (hl.lt hblk1) h1 (by omega) (by omega)
    exact h.mono fun e w' ⟨h, k⟩ => ⟨h, hl.loose k⟩
  have sym : ∀ (wr : World) (dk : Array α) (x y z : Nat), Loose enc p w0 blk off dk wr → dk.size = n → x < y → y < z → z ≤ n → SymPre R lt dk x y z →
      Calls P (ρ.f 30) #[.agg #[.func (.func g) #[] lb, .func (.func sf) #[] sb], .int .i64 x, .int .i64 y, .int .i64 z] wr fun e w' => e = .returned (.tuple #[]) ∧ ∃ d' : Array α, SymPost R dk x z d' ∧ Loose enc p w0 blk off d' w' := fun wr dk x y z hl hs h1 h2 h3 h4 => by
    have h := symMerge_any (P := P) (ρ := ρ) { L with } enc p lt R o g lb sf sb blk off n eg hswap (by omega) (z - x) x y z dk wr (Nat.le_refl _) hs (LessL.on2 hl1 hl) hl.ho hl.al (hl.lt hblk1) h1 h2 h3 h4
    exact h.mono fun e w' ⟨h, d', x, k⟩ => ⟨h, d', x, hl.loose k⟩
  have HBX : Hid _ := hbx
  have HB : Hid _ := hB0
  have INS : Hid _ := ins
  have SYM : Hid _ := sym
  have HF : Hid _ := F
  have LL : Hid _ := L
  have HN : Hid _ := hn
  clear hless hH hH1 hbx hB0 hl1 ins sym F LI L hswap hn
  go_enter LL.out.f15, BodyGt.n15_ntmps ρ
  go_wp2
  go_loopw [5, 6] (fun va vb wr => ∃ (q a b : Nat) (dk : Array α), va = .int .i64 a ∧ vb = .int .i64 b ∧ a = 20 * q ∧ b = a + 20 ∧ a ≤ n ∧ Blocks R d n a dk ∧ Loose enc p w0 blk off dk wr) (fun va _ _ => n - (intOf va).toNat)
  case atStart => exact ⟨0, 0, 20, d, by go_num, by go_num, rfl, rfl, Nat.zero_le _, ⟨HN.out, fun k h => by omega, fun k _ _ => rfl⟩, HH.out⟩
  case round =>
    obtain ⟨q, a, b, dk, rfl, rfl, ha, hb, han, hB, hwr⟩ := hrel
    have HW : Hid (Loose enc p w0 blk off dk wr) := hwr
    have BB : Hid _ := hB
    have HA : Hid (a = 20 * q ∧ b = a + 20) := ⟨ha, hb⟩
    have hab : a < b := by omega
    obtain ⟨c0, c1⟩ := HBX.out wr hwr.gr
    clear hwr hB ha hb
    by_cases hbn : b ≤ n
    · have hc := INS.out wr dk a b HW.out BB.out.sz (Nat.le_of_lt hab) hbn
      go_wp2_with (go_at_fn (ρ.f 29); refine hc.mono ?_; rintro e w1 ⟨rfl, hl⟩; have HL : Hid _ := hl; clear hl)
      go_roundw
      case rel => exact ⟨q + 1, b, b + 20, _, rfl, by congr 1 <;> omega, by have := HA.out; omega, rfl, hbn, BB.out.step o HF.out HA.out.1 HA.out.2 hbn, HL.out⟩
      case measure => simp [intOf]; omega
    · have hc := INS.out wr dk a n HW.out BB.out.sz han (Nat.le_refl _)
      go_wp2_with (go_at_fn (ρ.f 29); refine hc.mono ?_; rintro e w1 ⟨rfl, hl⟩; have HL : Hid _ := hl; clear hl)
      have LV : Hid (Lev R d n 20 (Sort.insertionSort lt dk a n)) := BB.out.done o HF.out HA.out.1 han (by have := HA.out; omega)
      go_loopw [4] (fun vs wr => ∃ (bs : Nat) (dk : Array α), vs = .int .i64 bs ∧ 20 ≤ bs ∧ Lev R d n bs dk ∧ Loose enc p w0 blk off dk wr) (fun vs _ => n - (intOf vs).toNat)
      case atStart => exact ⟨20, _, by go_num, Nat.le_refl _, LV.out, HL.out⟩
      case round =>
        clear HW BB c0 c1 hc HL LV
        obtain ⟨bs, dm, rfl, hbs, hlv, hwr⟩ := hrel
        have HW : Hid (Loose enc p w0 blk off dm wr) := hwr
        have LV : Hid _ := hlv
        obtain ⟨c0, c1⟩ := HBX.out wr hwr.gr
        clear hwr hlv
        by_cases hlt : bs < n
        · go_wp2
          go_loopw [5, 6] (fun va vb wr => ∃ (q a b : Nat) (dk : Array α), va = .int .i64 a ∧ vb = .int .i64 b ∧ a = q * (2 * bs) ∧ b = a + 2 * bs ∧ a ≤ n ∧ Half R d n bs q dk ∧ Loose enc p w0 blk off dk wr) (fun va _ _ => n - (intOf va).toNat)
          case atStart => exact ⟨0, 0, 2 * bs, dm, by go_num, by congr 1 <;> omega, by omega, by omega, Nat.zero_le _, LV.out.half, HW.out⟩
          case round =>
            clear HW LV c0 c1
            obtain ⟨q, a, b, dk, rfl, rfl, ha, hb, han, hM, hwr⟩ := hrel
            have HW : Hid (Loose enc p w0 blk off dk wr) := hwr
            have HM : Hid _ := hM
            have HA : Hid (a = q * (2 * bs) ∧ b = a + 2 * bs) := ⟨ha, hb⟩
            have hab : a + bs < b := by omega
            have hb4 : b ≤ 3 * n := by omega
            obtain ⟨c0, c1⟩ := HBX.out wr hwr.gr
            clear hwr hM ha hb
            by_cases hbn : b ≤ n
            · have pr := HM.out.pair (z := b) HA.out.1 hab (by have := HA.out; omega)
              have hc := SYM.out wr dk a (a + bs) b HW.out HM.out.sz (by omega) hab hbn (Runs.pre HF.out hbn pr.1 pr.2)
              clear pr
              rw [show ((a + bs : Nat) : Int) = (a : Int) + bs by omega] at hc
              go_wp2_with (go_at_fn (ρ.f 30); refine hc.mono ?_; rintro e w1 ⟨rfl, d2, hp, hl⟩; have HL : Hid _ := hl; have HP : Hid _ := hp; clear hl hp)
              go_roundw
              case rel => exact ⟨q + 1, b, b + 2 * bs, d2, rfl, by congr 1 <;> omega, by have := HA.out; rw [succ_mul']; omega, rfl, hbn, HM.out.step HA.out.1 HA.out.2 (by omega) hbn HP.out, HL.out⟩
              case measure => simp [intOf]; omega
            · by_cases hm : a + bs < n
              · have pr := HM.out.pair (z := n) HA.out.1 hm (by have := HA.out; omega)
                have hc := SYM.out wr dk a (a + bs) n HW.out HM.out.sz (by omega) hm (Nat.le_refl _) (Runs.pre HF.out (Nat.le_refl _) pr.1 pr.2)
                clear pr
                rw [show ((a + bs : Nat) : Int) = (a : Int) + bs by omega] at hc
                go_wp2_with (go_at_fn (ρ.f 30); refine hc.mono ?_; rintro e w1 ⟨rfl, d2, hp, hl⟩; have HL : Hid _ := hl; have HP : Hid _ := hp; clear hl hp)
                go_roundw
                case rel => exact ⟨2 * bs, d2, by congr 1 <;> omega, by omega, HM.out.done HA.out.1 HA.out.2 (by omega) han (by omega) (.inl ⟨hm, HP.out⟩), HL.out⟩
                case measure => simp [intOf]; omega
              · go_wp2
                go_roundw
                case rel => exact ⟨2 * bs, dk, by congr 1 <;> omega, by omega, HM.out.done HA.out.1 HA.out.2 (by omega) han (by omega) (.inr ⟨by omega, rfl⟩), HW.out⟩
                case measure => simp [intOf]; omega
        · go_wp2
          go_end0
          exact ⟨rfl, dm, LV.out.all (by omega) HN.out, Loose.trans HB.out hblk HW.out⟩
/-- sort.SliceStable at two elements or more, 'less' may lay blocks. -/
theorem slice_any (L : LaysGt.n8 P ρ) (t e : TypeId) (i ie : TypeInfo) (hi : P.info? t = some i) (hd : i.desc = .slice e) (hpk : P.packed t = false) (hie : P.info? e = some ie) (ke : Nat) (hke : ∀ w, (Extern.Rtype.kind e).run P w = .ok ke w)
    (hs1 : ie.size = 1) (hagg : ∀ w, (isAgg e).run P w = .ok false w) (enc : α → Value) (p : α → Prop) (h1 : ∀ x, (enc x).oneCell' = true) (lt : α → α → Bool) (R : α → α → Prop) (o : Ord R) (g : Nat) (lb : Array Value)
    (eg : ∀ args w, (callFunc g args).run P w = .ok (.enter g args) w) (blk off c : Nat) (d : Array α) (h2 : 2 ≤ d.size) (hsz : d.size < 1152921504606846976)
    (f : Nat) (hf : P.funcs.findIdx? (·.name == "internal/reflectlite" ++ ".Swapper$" ++ toString (swapperK d.size ie ke)) = some f)
    (gS : Bool) (hx : ∀ args W, (callFunc f args).run P W = ((Extern.ReflectliteSwapper.swap gS args).run P W).andThen fun v w' => .ok (.value v) w')
    (w : World) (hless : LessL P g lb enc p lt blk off d.size w) (hH : Holds enc w blk off d) (hal : ∀ k, k < d.size → p d[k]!) (hblk : blk < w.heap.size) (F : Fair R lt d 0 d.size) :
    Calls P (ρ.f 8) #[.iface t (.slice (some ⟨blk, off, none⟩) d.size c), .func (.func g) #[] lb] w fun e w' =>
      e = .returned (.tuple #[]) ∧ ∃ d' : Array α, SymPost R d 0 d.size d' ∧ Loose enc p w blk off d' w' := by
  refine Any.sort_SliceStable_of_stable L t e i ie hi hd hpk hie ke hke _ d.size c (by omega) f hf (.func g) #[] lb w _ ?_
  have hB : sliceBound P e ie ke (some ⟨blk, off, none⟩) d.size c = #[.slice (some ⟨blk, off, none⟩) d.size c, typeHandle P e] := by
    unfold sliceBound; rw [if_neg (swapperK_gt _ _ _ h2)]
  have hW : Below w.heap.size w (stableWorld P ρ t (some ⟨blk, off, none⟩) d.size c w) := by
    unfold stableWorld
    exact (below_alloc' _ _).alloc (by simp) _
  rw [hB]
  generalize stableWorld P ρ t (some ⟨blk, off, none⟩) d.size c w = w1 at hW
  have hp := stable_any (P := P) (ρ := ρ) { L with } enc p lt R o g lb f _ blk off d d.size rfl w1 eg (hless.on hW hblk)
    (swapSwaps_of_literal gS f hx e ie hie hs1 hagg enc h1 blk off d.size c) (holds_below hH hblk hW) hal (Nat.lt_of_lt_of_le hblk hW.size) F hsz
  refine hp.mono ?_
  rintro e w' ⟨rfl, d', hq, hl⟩
  exact ⟨rfl, d', hq, Loose.trans hW hblk hl⟩
theorem nodup_into [DecidableEq α] : ∀ (a b : List α), a.Nodup → (∀ x ∈ a, x ∈ b) → a.length ≤ b.length
  | [], b, _, _ => by simp
  | x :: t, b, h, hs => by
    have hx := hs x List.mem_cons_self
    have hn := List.nodup_cons.1 h
    have ih := nodup_into t (b.erase x) hn.2 (fun y hy => by
      have : y ≠ x := fun e => hn.1 (e ▸ hy)
      exact (List.mem_erase_of_ne this).2 (hs y (List.mem_cons_of_mem _ hy)))
    have hl := List.length_erase_of_mem hx
    have := List.length_pos_of_mem hx
    simp only [List.length_cons]
    omega
theorem ordered_one {R : α → α → Prop} (o : Ord R) : ∀ (l l' : List α), l.Pairwise R → l'.Pairwise R → (∀ z, z ∈ l ↔ z ∈ l') → l = l'
  | [], l', _, _, hm => by
    cases l' with
    | nil => rfl
    | cons y l' => exact absurd ((hm y).2 List.mem_cons_self) (by simp)
  | x :: l, [], _, _, hm => absurd ((hm x).1 List.mem_cons_self) (by simp)
  | x :: l, y :: l', h1, h2, hm => by
    rw [List.pairwise_cons] at h1 h2
    have exy : x = y := by
      have hx := (hm x).1 List.mem_cons_self
      have hy := (hm y).2 List.mem_cons_self
      rw [List.mem_cons] at hx hy
      rcases hx with e | hx
      · exact e
      · rcases hy with e | hy
        · exact e.symm
        · exact absurd (o.tr _ _ _ (h1.1 y hy) (h2.1 x hx)) (o.ir _)
    subst exy
    congr 1
    refine ordered_one o l l' h1.2 h2.2 (fun z => ⟨fun hz => ?_, fun hz => ?_⟩)
    · have := (hm z).1 (List.mem_cons_of_mem _ hz)
      rw [List.mem_cons] at this
      rcases this with rfl | h
      · exact absurd (h1.1 z hz) (o.ir _)
      · exact h
    · have := (hm z).2 (List.mem_cons_of_mem _ hz)
      rw [List.mem_cons] at this
      rcases this with rfl | h
      · exact absurd (h2.1 z hz) (o.ir _)
      · exact h
theorem getB' {d : Array α} {i : Nat} (h : i < d.size) : d[i]! = d[i] := by rw [getElem!_def]; simp [h]
theorem SymPost.list {R : α → α → Prop} {d d' : Array α} (p : SymPost R d 0 d.size d') : d'.toList.Pairwise R ∧ ∀ z ∈ d'.toList, z ∈ d.toList := by
  have hs := p.size
  refine ⟨List.pairwise_iff_getElem.2 (fun i j hi hj hij => ?_), fun z hz => ?_⟩
  · rw [Array.length_toList] at hi hj
    have := p.so i j (Nat.zero_le _) hij (by omega)
    rw [getB' hi, getB' hj] at this
    simpa using this
  · obtain ⟨i, hi, e⟩ := List.mem_iff_getElem.1 hz
    rw [Array.length_toList] at hi
    obtain ⟨k, _, hk, e2⟩ := p.of i (Nat.zero_le _) (by omega)
    rw [getB' hi, getB' hk] at e2
    rw [Array.getElem_toList, e2] at e
    rw [← e]
    exact Array.mem_toList_iff.2 (Array.getElem_mem hk)
theorem sympost_one [DecidableEq α] {R : α → α → Prop} (o : Ord R) {d d1 d2 : Array α} (p1 : SymPost R d 0 d.size d1) (p2 : SymPost R d 0 d.size d2) : d1 = d2 := by
  have all : ∀ d', SymPost R d 0 d.size d' → ∀ z ∈ d.toList, z ∈ d'.toList := fun d' p z hz => Classical.byContradiction fun hn => by
    obtain ⟨a, b⟩ := p.list
    have hnd : d'.toList.Nodup := by
      unfold List.Nodup
      exact a.imp (fun {x y} h => fun (e : x = y) => o.ir y (by rw [e] at h; exact h))
    have h1 := nodup_into d'.toList (d.toList.erase z) hnd (fun y hy => (List.mem_erase_of_ne (fun (e : y = z) => hn (by rw [← e]; exact hy))).2 (b y hy))
    have hl := List.length_erase_of_mem hz
    have h2 := List.length_pos_of_mem hz
    have h3 := p.size
    have e1 : d'.toList.length = d'.size := Array.length_toList
    have e2 : d.toList.length = d.size := Array.length_toList
    omega
  have := ordered_one o d1.toList d2.toList p1.list.1 p2.list.1 (fun z => ⟨fun h => all d2 p2 z (p1.list.2 z h), fun h => all d1 p1 z (p2.list.2 z h)⟩)
  exact Array.toList_inj.1 this
/-- What a stable sort gives is what the insertion sort gives. -/
theorem sympost_ins [DecidableEq α] {R : α → α → Prop} (o : Ord R) {lt : α → α → Bool} {d d' : Array α} (F : Fair R lt d 0 d.size) (p : SymPost R d 0 d.size d') (h0 : 0 < d.size) : d' = Sort.insertionSort lt d 0 d.size :=
  sympost_one o p (ins_post o d h0 (Nat.le_refl _) F)
theorem slice_ins [DecidableEq α] (L : LaysGt.n8 P ρ) (t e : TypeId) (i ie : TypeInfo) (hi : P.info? t = some i) (hd : i.desc = .slice e) (hpk : P.packed t = false) (hie : P.info? e = some ie) (ke : Nat) (hke : ∀ w, (Extern.Rtype.kind e).run P w = .ok ke w)
    (hs1 : ie.size = 1) (hagg : ∀ w, (isAgg e).run P w = .ok false w) (enc : α → Value) (p : α → Prop) (h1 : ∀ x, (enc x).oneCell' = true) (lt : α → α → Bool) (R : α → α → Prop) (o : Ord R) (g : Nat) (lb : Array Value)
    (eg : ∀ args w, (callFunc g args).run P w = .ok (.enter g args) w) (blk off c : Nat) (d : Array α) (h2 : 2 ≤ d.size) (hsz : d.size < 1152921504606846976)
    (f : Nat) (hf : P.funcs.findIdx? (·.name == "internal/reflectlite" ++ ".Swapper$" ++ toString (swapperK d.size ie ke)) = some f)
    (gS : Bool) (hx : ∀ args W, (callFunc f args).run P W = ((Extern.ReflectliteSwapper.swap gS args).run P W).andThen fun v w' => .ok (.value v) w')
    (w : World) (hless : LessL P g lb enc p lt blk off d.size w) (hH : Holds enc w blk off d) (hal : ∀ k, k < d.size → p d[k]!) (hblk : blk < w.heap.size) (F : Fair R lt d 0 d.size) :
    Calls P (ρ.f 8) #[.iface t (.slice (some ⟨blk, off, none⟩) d.size c), .func (.func g) #[] lb] w fun e w' =>
      e = .returned (.tuple #[]) ∧ Loose enc p w blk off (Sort.insertionSort lt d 0 d.size) w' :=
  (slice_any L t e i ie hi hd hpk hie ke hke hs1 hagg enc p h1 lt R o g lb eg blk off c d h2 hsz f hf gS hx w hless hH hal hblk F).mono fun e w' ⟨h, d', q, hl⟩ => ⟨h, by rw [← sympost_ins o F q (by omega)]; exact hl⟩
end Go.Proofs.SortLoose
