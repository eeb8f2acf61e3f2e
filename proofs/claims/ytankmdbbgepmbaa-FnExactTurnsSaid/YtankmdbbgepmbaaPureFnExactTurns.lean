/- Proved here: the law FnExactTurns, over numbers and lists: for all arguments it returns true; no condition. -/
import Derived.Test.YtankmdbbgepmbaaPFnExactTurnsx4
namespace Go.Proofs.Ytankmdbbgepmbaa.Pure
open Go.RowKit Go.Proofs.Ytankmdbbgepmbaa.PFnExactTurns Go.Proofs.YtankmdbbgepmbaaW.PrintWords Go.Proofs.YtankmdbbgepmbaaW.PrintLast
set_option linter.unusedVariables false
set_option linter.unusedSimpArgs false

theorem Ev.unroll {α : Type} {g : Nat → Option α} {r : α} (h : Ev (fun k => g (k + 1)) r) : Ev g r := Ev.step (fun _ => rfl) h
theorem wrap_id {x : Int} (h0 : -9223372036854775808 ≤ x) (h1 : x ≤ 9223372036854775807) : wrap64 x = x := by unfold wrap64; omega
abbrev BIG : Nat := 4611686018427387904
theorem wrap_succ {i n : Nat} (h : i < n) (hn : n ≤ BIG) : wrap64 ((i : Int) + 1) = ((i + 1 : Nat) : Int) := by unfold wrap64; unfold BIG at hn; omega
theorem drop_cons {α : Type} {xs : List α} {i : Nat} (h : i < xs.length) : xs.drop i = xs[i] :: xs.drop (i + 1) := List.drop_eq_getElem_cons h
theorem fill_step {α : Type} (ys zs : List α) (x : α) {i : Nat} (hi : i = ys.length) (hz : 0 < zs.length) : (ys ++ zs).set i x = (ys ++ [x]) ++ zs.drop 1 := by
 subst hi
 match zs, hz with
 | z :: zs, _ => simp
theorem some_bind {α β : Type} (a : α) (f : α → Option β) : (some a).bind f = f a := rfl
theorem getD_at {α : Type} {xs : List α} {d : α} {i : Nat} (h : i < xs.length) : xs.getD i d = xs[i] := by simp [List.getD, h]
theorem wrap_sc {i : Nat} (h : i < 9223372036854775807) : wrap64 ((i : Int) + 1) = ((i + 1 : Nat) : Int) := by unfold wrap64; omega
theorem rd_nat' {xs : List Int} {i : Nat} : rd xs (i : Int) = xs.getD i 0 := by unfold rd; rw [Int.toNat_natCast]
theorem Ev.ifp {α : Type} {c : Prop} [Decidable c] {g h : Nat → Option α} {r : α} (hc : c) (e : Ev g r) : Ev (fun k => if c then g k else h k) r := by simp only [if_pos hc]; exact e
theorem Ev.ifn {α : Type} {c : Prop} [Decidable c] {g h : Nat → Option α} {r : α} (hc : ¬ c) (e : Ev h r) : Ev (fun k => if c then g k else h k) r := by simp only [if_neg hc]; exact e
theorem ev_ite' {α : Type} {c : Prop} [Decidable c] {g h : Nat → Option α} {r : α} (h1 : c → Ev g r) (h2 : ¬ c → Ev h r) : Ev (fun k => if c then g k else h k) r := by
 by_cases hc : c
 ·simp only [if_pos hc]; exact h1 hc
 ·simp only [if_neg hc]; exact h2 hc
theorem szRobotS_f (l : List S40) (b : Int) (h : l.length ≤ 9223372036854775807) (h0 : 0 ≤ b) (h1 : b ≤ 1048576) : laws_szRobotS.f l b = some (if (l.length : Int) ≤ b then b - (l.length : Int) else -1) := by
 unfold laws_szRobotS.f
 rw [wrap_id (by omega) (by omega)]
 split <;> split <;> first | rfl | omega
def mkRobot (a : S40) : S37 := ⟨a.f0, a.f1, a.f2, a.f3, a.f4⟩
theorem toRobotS_l0 (xs : List S40) (hn : xs.length ≤ 1048576) : ∀ (d i : Nat) (ys zs : List S37), i + d = xs.length → ys.length = i → zs.length = d → ys = (xs.take i).map mkRobot →
  Ev (fun k => laws_toRobotS.l0 k xs (ys ++ zs) i) (xs.map mkRobot)
 | 0, i, ys, zs, h, hy, hz, e => Ev.unroll (by
   simp only [laws_toRobotS.l0]
   simp only [if_neg (show ¬ (i : Int) < xs.length by omega)]
   obtain rfl := List.length_eq_zero_iff.1 hz
   rw [e, List.take_of_length_le (by omega), List.append_nil]
   exact Ev.now _)
 | d + 1, i, ys, zs, h, hy, hz, e => Ev.unroll (by
   have hi : i < xs.length := by omega
   simp only [laws_toRobotS.l0, laws_toRobot.f, some_bind]
   simp only [if_pos (show (i : Int) < xs.length by omega), if_pos (show (0 : Int) ≤ i by omega), if_pos (show (i : Int) < (ys ++ zs).length by simp; omega), wrap_succ hi (by unfold BIG; omega), rd_T40, Int.toNat_natCast, getD_at hi]
   rw [fill_step ys zs _ hy.symm (by omega)]
   exact toRobotS_l0 xs hn d (i + 1) _ _ (by omega) (by simp; omega) (by simp; omega) (by rw [List.take_succ_eq_append_getElem hi, List.map_append, ← e]; rfl))
theorem toRobotS_f (l : List S40) (h : l.length ≤ 1048576) : Ev (fun k => laws_toRobotS.f k l) (l.map mkRobot) := by
 unfold laws_toRobotS.f
 simp only [if_pos (show (0 : Int) ≤ l.length by omega), if_pos (show (l.length : Int).toNat ≤ 7036874417766 by omega)]
 rw [Int.toNat_natCast]
 exact toRobotS_l0 l h l.length 0 [] _ (by omega) rfl (by simp) rfl
theorem eqRobot_f (r : S37) : laws_eqRobot.f r.f0 r.f1 r.f2 r.f3 r.f4 r.f0 r.f1 r.f2 r.f3 r.f4 = some true := by
 unfold laws_eqRobot.f
 simp
theorem eqRobotS_l0 (xs : List S37) (hn : xs.length ≤ BIG) : ∀ (d i : Nat), i + d = xs.length → Ev (fun k => laws_eqRobotS.l0 k xs xs i) true
 | 0, i, h => Ev.unroll (by
   simp only [laws_eqRobotS.l0]
   simp only [if_neg (show ¬ (i : Int) < xs.length by omega)]
   exact Ev.now _)
 | d + 1, i, h => Ev.unroll (by
   have hi : i < xs.length := by omega
   simp only [laws_eqRobotS.l0, eqRobot_f, some_bind]
   simp only [if_pos (show (i : Int) < xs.length by omega), if_pos (show (0 : Int) ≤ i by omega), wrap_succ hi hn, if_true]
   exact eqRobotS_l0 xs hn d (i + 1) (by omega))
theorem eqRobotS_f (l : List S37) (h : l.length ≤ BIG) : Ev (fun k => laws_eqRobotS.f k l l) true := by
 unfold laws_eqRobotS.f
 simp only [if_true]
 exact eqRobotS_l0 l h l.length 0 (by omega)

theorem markRobotS_l0 (n : Nat) (hn : n ≤ 1048576) : ∀ (d i a : Nat) (zs : List S37), i + d = n → zs.length = n → a ≤ 1048576 * 1048576 * 1048576 + 5 * i → ∃ r : Int × List S37, Ev (fun k => laws_markRobotS.l0 k zs (a : Int) i) r ∧ r.1 = ((a + 5 * d : Nat) : Int)
 | 0, i, a, zs, h, hz, ha => ⟨((a : Int), zs), Ev.unroll (by
   simp only [laws_markRobotS.l0, hz]
   simp only [if_neg (show ¬ (i : Int) < (n : Int) by omega)]
   exact Ev.now _), rfl⟩
 | d + 1, i, a, zs, h, hz, ha => by
   have w1 : ∀ j : Nat, j ≤ 10 → wrap64 (((a + j : Nat) : Int) + 1) = ((a + (j + 1) : Nat) : Int) := fun j hj => by unfold wrap64; omega
   have w0 : wrap64 ((a : Int) + 1) = ((a + 1 : Nat) : Int) := by unfold wrap64; omega
   have ih : ∀ zs' : List S37, zs'.length = n → ∃ r : Int × List S37, Ev (fun k => laws_markRobotS.l0 k zs' ((a + 5 : Nat) : Int) ((i + 1 : Nat) : Int)) r ∧ r.1 = ((a + 5 + 5 * d : Nat) : Int) := fun zs' hz' => markRobotS_l0 n hn d (i + 1) (a + 5) zs' (by omega) hz' (by omega)
   have key : ∃ zs' : List S37, zs'.length = n ∧ ∀ R, Ev (fun k => laws_markRobotS.l0 k zs' ((a + 5 : Nat) : Int) ((i + 1 : Nat) : Int)) R → Ev (fun k => laws_markRobotS.l0 k zs (a : Int) i) R := by
    refine ⟨?zz, ?hz, fun R hR => Ev.unroll ?hm⟩
    case hm =>
     simp only [laws_markRobotS.l0, hz, some_bind, Int.toNat_natCast]
     simp only [if_pos (show (i : Int) < (n : Int) by omega), if_pos (show (0 : Int) ≤ i by omega), wrap_succ (show i < n by omega) (show n ≤ BIG by unfold BIG; omega), w0, w1 1 (by omega), w1 2 (by omega), w1 3 (by omega), w1 4 (by omega)]
     exact hR
    case hz => simp only [List.length_set]; exact hz
   obtain ⟨zs', hz', hk⟩ := key
   obtain ⟨r, h1, h2⟩ := ih zs' hz'
   exact ⟨r, hk r h1, by rw [h2]; congr 1; omega⟩
theorem markRobotS_f (l : List S37) (a : Nat) (hn : l.length ≤ 1048576) (ha : a ≤ 1048576 * 1048576 * 1048576) : ∃ r : Int × List S37, Ev (fun k => laws_markRobotS.f k l (a : Int)) r ∧ r.1 = ((a + 5 * l.length : Nat) : Int) :=
 markRobotS_l0 l.length hn l.length 0 a l (by omega) rfl (by omega)

theorem eqIntS_l0 (xs : List Int) (hn : xs.length ≤ BIG) : ∀ (d i : Nat), i + d = xs.length → Ev (fun k => laws_eqIntS.l0 k xs xs i) true
 | 0, i, h => Ev.unroll (by
   simp only [laws_eqIntS.l0]
   simp only [if_neg (show ¬ (i : Int) < xs.length by omega)]
   exact Ev.now _)
 | d + 1, i, h => Ev.unroll (by
   have hi : i < xs.length := by omega
   simp only [laws_eqIntS.l0]
   simp only [if_pos (show (i : Int) < xs.length by omega), if_pos (show (0 : Int) ≤ i by omega), wrap_succ hi hn, if_true]
   exact eqIntS_l0 xs hn d (i + 1) (by omega))
theorem eqIntS_f (l : List Int) (h : l.length ≤ BIG) : Ev (fun k => laws_eqIntS.f k l l) true := by
 unfold laws_eqIntS.f
 simp only [if_true]
 exact eqIntS_l0 l h l.length 0 (by omega)

def marksFrom (a n : Nat) : List Int := (List.range' a n).map (fun j : Nat => (j : Int))
theorem marksFrom_length (a n : Nat) : (marksFrom a n).length = n := by unfold marksFrom; simp
theorem marksFrom_succ (a n : Nat) : marksFrom a (n + 1) = marksFrom a n ++ [((a + n : Nat) : Int)] := by
 unfold marksFrom
 rw [List.range'_1_concat, List.map_append]; rfl
theorem marksFrom_getD (a n i : Nat) (h : i < n) : (marksFrom a n).getD i 0 = ((a + i : Nat) : Int) := by
 rw [getD_at (by rw [marksFrom_length]; exact h)]
 unfold marksFrom
 simp
theorem markIntS_l0 (a n : Nat) (hn : a + n ≤ BIG) : ∀ (d i : Nat) (zs : List Int), i + d = n → zs.length = d → Ev (fun k => laws_markIntS.l0 k (marksFrom a i ++ zs) ((a + i : Nat) : Int) i) (((a + n : Nat) : Int), marksFrom a n)
 | 0, i, zs, h, hz => Ev.unroll (by
   obtain rfl := List.length_eq_zero_iff.1 hz
   obtain rfl : i = n := by omega
   simp only [laws_markIntS.l0, List.append_nil, marksFrom_length, Int.lt_irrefl, if_false]
   exact Ev.now _)
 | d + 1, i, zs, h, hz => Ev.unroll (by
   have hl : (marksFrom a i ++ zs).length = n := by rw [List.length_append, marksFrom_length]; omega
   simp only [laws_markIntS.l0, hl]
   simp only [if_pos (show (i : Int) < (n : Int) by omega), if_pos (show (0 : Int) ≤ i by omega), wrap_succ (show i < n by omega) (by omega), wrap_succ (show a + i < a + n by omega) hn, Int.toNat_natCast]
   rw [fill_step (marksFrom a i) zs _ (marksFrom_length a i).symm (by omega), ← marksFrom_succ, Nat.add_assoc]
   exact markIntS_l0 a n hn d (i + 1) _ (by omega) (by simp; omega))
theorem markIntS_f (l : List Int) (a : Nat) (hn : a + l.length ≤ BIG) : Ev (fun k => laws_markIntS.f k l (a : Int)) (((a + l.length : Nat) : Int), marksFrom a l.length) :=
 markIntS_l0 a l.length hn l.length 0 l (by omega) rfl
theorem heldIntS_l0 (a n : Nat) (hn : a + n ≤ BIG) : ∀ (d i : Nat), i + d = n → Ev (fun k => laws_heldIntS.l0 k (marksFrom a n) ((a + i : Nat) : Int) i) ((a + n : Nat) : Int)
 | 0, i, h => Ev.unroll (by
   obtain rfl : i = n := by omega
   simp only [laws_heldIntS.l0, marksFrom_length, Int.lt_irrefl, if_false]
   exact Ev.now _)
 | d + 1, i, h => Ev.unroll (by
   simp only [laws_heldIntS.l0, marksFrom_length]
   simp only [if_pos (show (i : Int) < (n : Int) by omega), if_pos (show (0 : Int) ≤ i by omega), wrap_succ (show i < n by omega) (by omega), wrap_succ (show a + i < a + n by omega) hn, rd, Int.toNat_natCast, marksFrom_getD a n i (by omega), if_true]
   exact heldIntS_l0 a n hn d (i + 1) (by omega))
theorem heldIntS_f (a n : Nat) (hn : a + n ≤ BIG) : Ev (fun k => laws_heldIntS.f k (marksFrom a n) (a : Int)) ((a + n : Nat) : Int) :=
 heldIntS_l0 a n hn n 0 (by omega)

def insRev (lt : Int → Int → Bool) (x : Int) : List Int → List Int
 | [] => [x]
 | y :: r => if lt x y = true then y :: insRev lt x r else x :: y :: r
def sortRev (lt : Int → Int → Bool) (r : List Int) (xs : List Int) : List Int := xs.foldl (fun r x => insRev lt x r) r
def sortF (lt : Int → Int → Bool) (xs : List Int) : List Int := (sortRev lt [] xs).reverse
theorem getB {xs : List Int} {j : Nat} (h : j < xs.length) : xs.toArray[j]! = xs[j] := by
 rw [getElem!_def]; simp [h]
theorem insInner_list (lt : Int → Int → Bool) (x : Int) : ∀ (j : Nat) (A B : List Int), A.length = j → (Sort.insInner lt 0 j (A ++ x :: B).toArray) = ((insRev lt x A.reverse).reverse ++ B).toArray
 | 0, A, B, h => by
  obtain rfl := List.length_eq_zero_iff.1 h
  rfl
 | j + 1, A, B, h => by
  obtain ⟨A', y, rfl⟩ : ∃ A' y, A = A' ++ [y] := ⟨A.dropLast, A.getLast (by intro e; rw [e] at h; simp at h), (List.dropLast_concat_getLast _).symm⟩
  have hl : A'.length = j := by simp at h; omega
  have e1 : ((A' ++ [y]) ++ x :: B).toArray[j + 1]! = x := by rw [getB (by simp; omega)]; rw [List.getElem_append_right (by simp; omega)]; simp [hl]
  have e2 : ((A' ++ [y]) ++ x :: B).toArray[j]! = y := by rw [getB (by simp; omega)]; rw [List.getElem_append_left (by simp; omega), List.getElem_append_right (by omega)]; simp [hl]
  unfold Sort.insInner
  rw [e1, e2, List.reverse_append, List.reverse_singleton, List.singleton_append]
  simp only [insRev]
  by_cases hlt : lt x y = true
  ·rw [if_pos (by simp [hlt]), if_pos hlt]
   have es : Sort.swp ((A' ++ [y]) ++ x :: B).toArray (j + 1) j = (A' ++ x :: (y :: B)).toArray := by
    unfold Sort.swp
    rw [e1, e2]
    simp only [List.setIfInBounds_toArray]
    congr 1
    rw [List.set_append_right _ _ (by simp; omega)]
    rw [show j + 1 - (A' ++ [y]).length = 0 by simp; omega, List.set_cons_zero, List.append_assoc, List.set_append_right _ _ (by omega), show j - A'.length = 0 by omega]
    rfl
   rw [es, insInner_list lt x j A' (y :: B) hl]
   simp
  ·rw [if_neg (by simp [hlt]), if_neg hlt]
   simp
theorem insOuter_list (lt : Int → Int → Bool) : ∀ (d i : Nat) (r B : List Int), r.length = i → B.length = d → Sort.insOuter lt 0 (i + d) i (r.reverse ++ B).toArray = ((sortRev lt r B).reverse).toArray
 | 0, i, r, B, h, hB => by
  obtain rfl := List.length_eq_zero_iff.1 hB
  unfold Sort.insOuter
  rw [if_neg (by omega), List.append_nil]; rfl
 | d + 1, i, r, B, h, hB => by
  match B, hB with
  | x :: B, hB =>
   have hB : B.length = d := by simpa using hB
   unfold Sort.insOuter
   rw [if_pos (by omega), insInner_list lt x i r.reverse B (by simpa using h), List.reverse_reverse]
   have hl : (insRev lt x r).length = i + 1 := by
    have key : ∀ r : List Int, (insRev lt x r).length = r.length + 1 := by
     intro r
     induction r with
     | nil => rfl
     | cons y r ih => unfold insRev; split <;> simp [ih]
    rw [key, h]
   have := insOuter_list lt d (i + 1) (insRev lt x r) B hl hB
   rw [show i + (d + 1) = i + 1 + d by omega, this]
   rfl
theorem sortL_eq (lt : Int → Int → Bool) (xs : List Int) : sortL lt xs = sortF lt xs := by
 unfold sortL sortF Sort.insertionSort
 match xs with
 | [] =>
  unfold Sort.insOuter
  rfl
 | x :: xs =>
  have := insOuter_list lt xs.length 1 [x] xs rfl rfl
  rw [show (x :: xs).length = 1 + xs.length by simp; omega, show (0 + 1) = 1 from rfl, show (x :: xs) = [x].reverse ++ xs from rfl, this]
  rfl
theorem insRev_mem {lt : Int → Int → Bool} {x z : Int} : ∀ {r : List Int}, z ∈ insRev lt x r ↔ z = x ∨ z ∈ r
 | [] => by simp [insRev]
 | y :: r => by
  unfold insRev
  split
  ·rw [List.mem_cons, insRev_mem, List.mem_cons]
   constructor
   ·rintro (h | h | h)
    ·exact Or.inr (Or.inl h)
    ·exact Or.inl h
    ·exact Or.inr (Or.inr h)
   ·rintro (h | h | h)
    ·exact Or.inr (Or.inl h)
    ·exact Or.inl h
    ·exact Or.inr (Or.inr h)
  ·simp
theorem insRev_length {lt : Int → Int → Bool} {x : Int} : ∀ {r : List Int}, (insRev lt x r).length = r.length + 1
 | [] => rfl
 | y :: r => by unfold insRev; split <;> simp [insRev_length]
theorem insRev_nodup {lt : Int → Int → Bool} {x : Int} : ∀ {r : List Int}, r.Nodup → x ∉ r → (insRev lt x r).Nodup
 | [], _, _ => by simp [insRev]
 | y :: r, h, hx => by
  rw [List.nodup_cons] at h
  rw [List.mem_cons, not_or] at hx
  unfold insRev
  split
  ·rw [List.nodup_cons, insRev_mem]
   exact ⟨fun e => by rcases e with e | e; exact hx.1 e.symm; exact h.1 e, insRev_nodup h.2 hx.2⟩
  ·rw [List.nodup_cons, List.mem_cons, not_or]
   exact ⟨hx, List.nodup_cons.2 h⟩
theorem insRev_sorted {lt : Int → Int → Bool} (has : ∀ a b, lt a b = true → lt b a = false) (hnt : ∀ a b c, lt a b = false → lt b c = false → lt a c = false) {x : Int} : ∀ {r : List Int}, r.Pairwise (fun a b => lt a b = false) → (insRev lt x r).Pairwise (fun a b => lt a b = false)
 | [], _ => by simp [insRev]
 | y :: r, h => by
  rw [List.pairwise_cons] at h
  unfold insRev
  by_cases hx : lt x y = true
  ·rw [if_pos hx, List.pairwise_cons]
   refine ⟨fun b hb => ?_, insRev_sorted has hnt h.2⟩
   rw [insRev_mem] at hb
   rcases hb with rfl | hb
   ·exact has _ _ hx
   ·exact h.1 b hb
  ·rw [Bool.not_eq_true] at hx
   rw [if_neg (by rw [hx]; decide), List.pairwise_cons, List.pairwise_cons]
   refine ⟨fun b hb => ?_, h⟩
   rw [List.mem_cons] at hb
   rcases hb with rfl | hb
   ·exact hx
   ·exact hnt _ _ _ hx (h.1 b hb)
theorem sortRev_facts {lt : Int → Int → Bool} (has : ∀ a b, lt a b = true → lt b a = false) (hnt : ∀ a b c, lt a b = false → lt b c = false → lt a c = false) : ∀ (xs r : List Int), r.Pairwise (fun a b => lt a b = false) →
  (sortRev lt r xs).Pairwise (fun a b => lt a b = false) ∧ (sortRev lt r xs).length = r.length + xs.length ∧ (∀ z, z ∈ sortRev lt r xs ↔ z ∈ r ∨ z ∈ xs) ∧ (r.Nodup → xs.Nodup → (∀ z, z ∈ r → z ∉ xs) → (sortRev lt r xs).Nodup)
 | [], r, h => ⟨h, rfl, fun z => by simp [sortRev], fun h _ _ => h⟩
 | x :: xs, r, h => by
  obtain ⟨h1, h2, h3, h4⟩ := sortRev_facts has hnt xs (insRev lt x r) (insRev_sorted has hnt h)
  refine ⟨h1, ?_, fun z => ?_, fun hr hx hd => ?_⟩
  ·show (sortRev lt (insRev lt x r) xs).length = _
   rw [h2, insRev_length, List.length_cons]; omega
  ·show z ∈ sortRev lt (insRev lt x r) xs ↔ _
   rw [h3, insRev_mem, List.mem_cons]
   constructor
   ·rintro ((h | h) | h)
    ·exact Or.inr (Or.inl h)
    ·exact Or.inl h
    ·exact Or.inr (Or.inr h)
   ·rintro (h | h | h)
    ·exact Or.inl (Or.inr h)
    ·exact Or.inl (Or.inl h)
    ·exact Or.inr h
  ·rw [List.nodup_cons] at hx
   refine h4 (insRev_nodup hr (fun e => hd x e (List.mem_cons_self ..))) hx.2 (fun z hz => ?_)
   rw [insRev_mem] at hz
   rcases hz with rfl | hz
   ·exact hx.1
   ·exact fun e => hd z hz (List.mem_cons_of_mem _ e)
structure Sorted (lt : Int → Int → Bool) (xs l : List Int) : Prop where
 ord : l.Pairwise (fun a b => lt b a = false)
 len : l.length = xs.length
 mem : ∀ z, z ∈ l ↔ z ∈ xs
 nodup : xs.Nodup → l.Nodup
theorem sortF_sorted {lt : Int → Int → Bool} (has : ∀ a b, lt a b = true → lt b a = false) (hnt : ∀ a b c, lt a b = false → lt b c = false → lt a c = false) (xs : List Int) : Sorted lt xs (sortF lt xs) := by
 obtain ⟨h1, h2, h3, h4⟩ := sortRev_facts has hnt xs [] List.Pairwise.nil
 unfold sortF
 refine ⟨List.pairwise_reverse.2 h1, by rw [List.length_reverse, h2]; simp, fun z => by rw [List.mem_reverse, h3]; simp, fun h => ?_⟩
 have := h4 List.nodup_nil h (fun z hz => by cases hz)
 unfold List.Nodup at this ⊢
 rw [List.pairwise_reverse]
 exact this.imp (fun h e => h e.symm)
theorem turnsLt_eq (l : List S37) (a b : Int) : turnsLt l a b = true ↔ (rd_T37 l a).f4 > (rd_T37 l b).f4 ∨ ((rd_T37 l a).f4 = (rd_T37 l b).f4 ∧ (rd_T37 l a).f0 < (rd_T37 l b).f0) := by
 unfold turnsLt
 rw [Bool.or_eq_true, Bool.and_eq_true, decide_eq_true_eq, decide_eq_true_eq, decide_eq_true_eq]
theorem turnsLt_no (l : List S37) (a b : Int) : turnsLt l a b = false ↔ ¬ ((rd_T37 l a).f4 > (rd_T37 l b).f4 ∨ ((rd_T37 l a).f4 = (rd_T37 l b).f4 ∧ (rd_T37 l a).f0 < (rd_T37 l b).f0)) := by
 rw [← turnsLt_eq, Bool.not_eq_true]
theorem turns_as (l : List S37) (a b : Int) : turnsLt l a b = true → turnsLt l b a = false := by
 rw [turnsLt_eq, turnsLt_no]; omega
theorem turns_nt (l : List S37) (a b c : Int) : turnsLt l a b = false → turnsLt l b c = false → turnsLt l a c = false := by
 rw [turnsLt_no, turnsLt_no, turnsLt_no]; omega
theorem upto_len' (n : Nat) : (upto n).length = n := by simp [upto]
def turnsOf (l : List S37) : List Int := sortF (turnsLt l) (upto l.length)
theorem turns_sorted (l : List S37) : Sorted (turnsLt l) (upto l.length) (turnsOf l) := sortF_sorted (turns_as l) (turns_nt l) _
theorem turnsA_l1 (l : List S37) (hn : l.length ≤ 1048576) (i : Nat) (hi : i < l.length) (R : List Int) : ∀ (m : Nat) (C A : List Int) (z : Int), A.length = m → m + C.length ≤ 2097152 → (∀ y ∈ A, 0 ≤ y ∧ y < (l.length : Int)) →
  Ev (fun k => spec_Turns.l0 k l ((insRev (turnsLt l) (i : Int) A.reverse).reverse ++ C) (wrap64 ((i : Int) + 1))) R → Ev (fun k => spec_Turns.l1 k l (A ++ z :: C) i (m : Int)) R := by
 intro m
 induction m with
 | zero =>
  intro C A z hA hm hb hR
  obtain rfl := List.length_eq_zero_iff.1 hA
  refine Ev.unroll ?_
  simp only [spec_Turns.l1]
  exact Ev.ifn (by omega) (Ev.ifp (by omega) (Ev.ifp (by simp) hR))
 | succ m ih =>
  intro C A z hA hm hb hR
  obtain ⟨A', y, rfl⟩ : ∃ A' y, A = A' ++ [y] := ⟨A.dropLast, A.getLast (by intro e; rw [e] at hA; simp at hA), (List.dropLast_concat_getLast _).symm⟩
  have hl : A'.length = m := by simp at hA; omega
  have ew : wrap64 (((m + 1 : Nat) : Int) - 1) = (m : Int) := by unfold wrap64; omega
  have er : rd ((A' ++ [y]) ++ z :: C) (m : Int) = y := by
   rw [rd_nat', List.getD_eq_getElem?_getD, List.append_assoc, List.getElem?_append_right (by omega), hl, Nat.sub_self]; rfl
  obtain ⟨hy0, hy1⟩ := hb y (by simp)
  have es : ∀ v : Int, ((A' ++ [y]) ++ z :: C).set ((m + 1 : Nat) : Int).toNat v = A' ++ y :: (v :: C) := by
   intro v
   rw [Int.toNat_natCast, List.set_append_right _ _ (by simp; omega), show m + 1 - (A' ++ [y]).length = 0 by simp; omega, List.set_cons_zero, List.append_assoc]; rfl
  rw [List.reverse_append, List.reverse_singleton, List.singleton_append] at hR
  simp only [insRev] at hR
  have go : turnsLt l (i : Int) y = true → Ev (fun k => spec_Turns.l1 k l (A' ++ y :: (y :: C)) i (m : Int)) R := by
   intro hlt
   rw [if_pos hlt] at hR
   refine ih (y :: C) A' y hl (by simp; omega) (fun u hu => hb u (by simp [hu])) ?_
   rw [List.reverse_cons, List.append_assoc] at hR
   exact hR
  have stay : turnsLt l (i : Int) y = false → Ev (fun k => spec_Turns.l0 k l (A' ++ y :: ((i : Int) :: C)) (wrap64 ((i : Int) + 1))) R := by
   intro hlt
   rw [if_neg (by rw [hlt]; decide)] at hR
   have e2 : ((i : Int) :: y :: A'.reverse).reverse ++ C = A' ++ y :: ((i : Int) :: C) := by simp
   rw [e2] at hR
   exact hR
  clear hR
  refine Ev.unroll ?_
  simp only [spec_Turns.l1, ew, er, es]
  refine Ev.ifp (by omega) (Ev.ifp (by omega) (Ev.ifp (by simp; omega) (Ev.ifp hy0 (Ev.ifp hy1 (Ev.ifp (by omega) (Ev.ifp (by omega) ?_))))))
  refine ev_ite' (fun h1 => ?_) (fun h1 => ev_ite' (fun h2 => ev_ite' (fun h3 => ?_) (fun h3 => ?_)) (fun h2 => ?_))
  ·exact Ev.ifp (by omega) (Ev.ifp (by simp; omega) (go ((turnsLt_eq l _ _).2 (by omega))))
  ·exact Ev.ifp (by omega) (Ev.ifp (by simp; omega) (go ((turnsLt_eq l _ _).2 (by omega))))
  ·exact Ev.ifp (by omega) (Ev.ifp (by simp; omega) (stay ((turnsLt_no l _ _).2 (by omega))))
  ·exact Ev.ifp (by omega) (Ev.ifp (by simp; omega) (stay ((turnsLt_no l _ _).2 (by omega))))
theorem turnsA_l0 (l : List S37) (hn : l.length ≤ 1048576) : ∀ (d i : Nat) (rv : List Int), i + d = l.length → rv.length = i → (∀ y ∈ rv, 0 ≤ y ∧ y < (l.length : Int)) →
  Ev (fun k => spec_Turns.l0 k l rv.reverse i) (sortRev (turnsLt l) rv ((upto l.length).drop i)).reverse
 | 0, i, rv, e, hl, hm => Ev.unroll (by
   simp only [spec_Turns.l0]
   rw [show (upto l.length).drop i = [] from List.drop_eq_nil_of_le (by rw [upto_len']; omega)]
   exact Ev.ifn (by omega) (Ev.now _))
 | d + 1, i, rv, e, hl, hm => Ev.unroll (by
   have hi : i < l.length := by omega
   have hiu : i < (upto l.length).length := by rw [upto_len']; exact hi
   have eu : (upto l.length)[i] = (i : Int) := by simp [upto]
   have ih := turnsA_l0 l hn d (i + 1) (insRev (turnsLt l) (i : Int) rv) (by omega) (by rw [insRev_length]; omega) (fun y hy => by
    rw [insRev_mem] at hy
    rcases hy with rfl | hy
    ·omega
    ·exact hm y hy)
   simp only [spec_Turns.l0]
   refine Ev.ifp (by omega) (Ev.ifp (by simp; omega) ?_)
   have h2 := turnsA_l1 l hn i hi (sortRev (turnsLt l) rv ((upto l.length).drop i)).reverse rv.reverse.length [] rv.reverse (i : Int) rfl (by simp; omega) (fun y hy => hm y (by simpa using hy)) (by
    rw [List.reverse_reverse, List.append_nil, wrap_sc (show i < 9223372036854775807 by omega), drop_cons hiu, eu]
    exact ih)
   exact h2)
theorem spec_Turns_fA (l : List S37) (hn : l.length ≤ 1048576) : Ev (fun k => spec_Turns.f k l) (turnsOf l) := by
 have h := turnsA_l0 l hn l.length 0 [] (by omega) rfl (by simp)
 rw [List.drop_zero] at h
 exact h
theorem impl_Turns_fA (l : List S37) (h : l.length ≤ 1048576) : impl_Turns.f l = some (turnsOf l) := by
 unfold impl_Turns.f turnsOf
 rw [if_pos h, sortL_eq]

theorem FnExactTurns : ∀ (l0 : List (S40)), (l0.length ≤ 9223372036854775807 ∧ ∀ y0 ∈ l0, ((-9223372036854775808 ≤ y0.f0 ∧ y0.f0 ≤ 9223372036854775807) ∧ (-9223372036854775808 ≤ y0.f1 ∧ y0.f1 ≤ 9223372036854775807) ∧ (-9223372036854775808 ≤ y0.f2 ∧ y0.f2 ≤ 9223372036854775807) ∧ True ∧ (-9223372036854775808 ≤ y0.f4 ∧ y0.f4 ≤ 9223372036854775807))) → ∃ k, laws_FnExactTurns.f k l0 = some true := by
 intro crew ⟨hc, _⟩
 refine Ev.rounds ?_
 unfold laws_FnExactTurns.f
 rw [szRobotS_f crew _ hc (show (0 : Int) ≤ 1048576 by omega) (by omega)]
 by_cases hd : (crew.length : Int) ≤ 1048576
 ·rw [if_pos hd]
  have hl : (crew.map mkRobot).length ≤ 1048576 := by rw [List.length_map]; omega
  have hm : (crew.map mkRobot).length ≤ BIG := by unfold BIG; omega
  have e1 := toRobotS_f crew (by omega)
  have e2 := spec_Turns_fA (crew.map mkRobot) hl
  have e3 := impl_Turns_fA (crew.map mkRobot) hl
  have e4 := eqRobotS_f _ hm
  have hp : (turnsOf (crew.map mkRobot)).length ≤ 1048576 := by rw [(turns_sorted _).len, upto_len']; exact hl
  generalize turnsOf (crew.map mkRobot) = R at *
  have hpB : R.length ≤ BIG := by unfold BIG; omega
  have e6 := eqIntS_f R hpB
  have e7 := markIntS_f R 1 (by unfold BIG; omega)
  obtain ⟨mk, e8, e9⟩ := markRobotS_f (crew.map mkRobot) 1 hl (by omega)
  simp only [some_bind]
  refine Ev.ifn (by omega) (Ev.bind e1 (Ev.bind e2 (Ev.bind e1 ?_)))
  simp only [e3, some_bind]
  refine Ev.bind e6 (Ev.ifp rfl (Ev.bind e1 (Ev.bind e4 (Ev.ifp rfl (Ev.bind e8 (Ev.ifn (by rw [e9]; omega) (Ev.bind e6 ?_)))))))
  refine Ev.unroll ?_
  simp only [laws_FnExactTurns.j0, Bool.not_true, Bool.false_eq_true, if_false]
  refine Ev.bind e7 (Ev.bind (heldIntS_f 1 _ (by unfold BIG; omega)) (Ev.ifn (by omega) (Ev.ifp rfl (Ev.bind e1 ?_))))
  simp only [e3, some_bind]
  exact Ev.bind e6 (Ev.ifp rfl (Ev.bind (heldIntS_f 1 _ (by unfold BIG; omega)) (Ev.ifn (by omega) (Ev.ifp rfl (Ev.now _)))))
 ·rw [if_neg hd]
  simp only [some_bind]
  exact Ev.ifp (by omega) (Ev.now _)

end Go.Proofs.Ytankmdbbgepmbaa.Pure
