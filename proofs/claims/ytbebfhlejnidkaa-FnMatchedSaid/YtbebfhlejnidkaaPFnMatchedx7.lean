-- Made by a program of this session out of the translation. Lean checks it.
import Derived.Test.YtbebfhlejnidkaaPFnMatchedx0
namespace Go.Proofs.Ytbebfhlejnidkaa.PFnMatched
open Go.RowKit Go.Proofs.YtbebfhlejnidkaaW.PrintWords Go.Proofs.YtbebfhlejnidkaaW.PrintLast Go.Proofs.YtbebfhlejnidkaaW.PrintMore
attribute [local go_sem] max2_int min2_int max_two min_two max_three min_three max_four min_four   -- for this text's walks alone
set_option linter.unusedVariables false
set_option linter.unusedSimpArgs false

/-! ### laws_least: function 19 -/
mutual
def laws_least.l0 : Nat → List (List Int) → Int → List Bool → Int → Int → Option (Int × List Bool)
 | 0, _, _, _, _, _ => none
 | k + 1, x0, x1, x2, x7, x8 => if 0 ≤ x1 then (if x1 < (x0.length : Int) then (if x8 < ((rd_L1 x0 x1).length : Int) then (if 0 ≤ x8 then (if x8 < (x2.length : Int) then (if rdOf false x2 x8 = true then (laws_least.l0 k x0 x1 x2 x7 (wrap64 (x8 + 1))) else ((laws_least.f k x0 (wrap64 (x1 + 1)) (x2.set (x8 : Int).toNat true)).bind fun bt291 => ((some (bt291.2.set (x8 : Int).toNat false : List Bool)).bind fun y293 => (if x7 < 0 then (laws_least.l0 k x0 x1 y293 (wrap64 ((rd (rd_L1 x0 x1) x8) + bt291.1)) (wrap64 (x8 + 1))) else (if (wrap64 ((rd (rd_L1 x0 x1) x8) + bt291.1)) < x7 then (laws_least.l0 k x0 x1 y293 (wrap64 ((rd (rd_L1 x0 x1) x8) + bt291.1)) (wrap64 (x8 + 1))) else (laws_least.l0 k x0 x1 y293 x7 (wrap64 (x8 + 1)))))))) else (none)) else (none)) else (some (x7, x2))) else (none)) else (none)
def laws_least.f : Nat → List (List Int) → Int → List Bool → Option (Int × List Bool)
 | 0, _, _, _ => none
 | k + 1, l0, a1, l2 => if a1 = (l0.length : Int) then (some (0, l2)) else (laws_least.l0 k l0 a1 l2 (-1) 0)
end
theorem laws_least.mono_l : ∀ k, (∀ y0 y1 y2, LeO (laws_least.f k y0 y1 y2) (laws_least.f (k + 1) y0 y1 y2)) ∧ (∀ y0 y1 y2 y3 y4, LeO (laws_least.l0 k y0 y1 y2 y3 y4) (laws_least.l0 (k + 1) y0 y1 y2 y3 y4))
 | 0 => ⟨fun _ _ _ r h => by simp [laws_least.f] at h, fun _ _ _ _ _ r h => by simp [laws_least.l0] at h⟩
 | k + 1 => by
  obtain ⟨ih0, ih1⟩ := laws_least.mono_l k
  refine ⟨?_, ?_⟩
  {
  intro y0 y1 y2
  unfold laws_least.f
  exact qL
  }
  {
  intro y0 y1 y2 y3 y4
  unfold laws_least.l0
  exact qL
  }
theorem laws_least.mono : ∀ a0 a1 a2 k, LeO (laws_least.f k a0 a1 a2) (laws_least.f (k + 1) a0 a1 a2) := by
 intro a0 a1 a2 k
 obtain ⟨ih0, ih1⟩ := laws_least.mono_l k
 exact ih0 a0 a1 a2
def laws_least.T9 : Bool × List (List Nat × List Nat) := (true, [([], []), ([], []), ([0, 1], [0, 1]), ([2], [2]), ([], []), ([3, 4], [3, 4]), ([5], [5]), ([], []), ([], []), ([8], [8]), ([], []), ([7, 9, 10], [7, 9, 10]), ([6, 11], [6, 11]), ([12, 11, 0, 1, 2, 3, 4, 5, 6, 7, 8, 9, 10, 11, 12], [12])])
def laws_least.B9 : List Nat := [0, 0, 3, 7, 0, 31, 63, 0, 0, 256, 0, 1920, 4095, 8191]
theorem laws_least.tab9 : rtab .any (opsOf Try.f19 9) = laws_least.T9 := by kernel_rfl
theorem laws_least.bits9 : waitsOk laws_least.T9.2 laws_least.B9 = true := by kernel_rfl
set_option maxHeartbeats 8000000 in
set_option maxRecDepth 100000 in
theorem laws_least.calls (k : Nat) : ∀ (A0 : Option Addr) (c0 : Nat) (l0 : List (List Int)) (a1 : Int) (P2_ : Nat → Prop) (u9000_ : Value) (l2 : List Bool) (r1 : Int) (r2 : List Bool) (w0 w : World) (hB : Below w0.heap.size w0 w) (hr0 : ∀ W_, Kept w W_ (fun k_ => P2_ k_) → Kd.C (Kd.slice 3 (Kd.int .i64)) W_ A0 l0.length l0) (hc0 : l0.length ≤ c0) (ho2 : Kd.R Kd.bool 4 w w0.heap.size P2_ u9000_ l2) (h : laws_least.f k l0 a1 l2 = some (r1, r2)),
  Calls Try.prog 19 #[.slice A0 l0.length c0, .int .i64 a1, u9000_] w fun e w' => e = .returned (.int .i64 r1) ∧ Kd.R Kd.bool 4 w' w0.heap.size (fun k_ => (P2_ k_ ∨ w.heap.size ≤ k_)) u9000_ r2 ∧ Below w0.heap.size w0 w' ∧ Kept w w' (fun k_ => P2_ k_) := by
 induction k using Nat.strongRecOn with
 | _ k ih =>
 intro A0 c0 l0 a1 P2_ u9000_ l2 r1 r2 w0 w hB hr0 hc0 ho2 h
 cases k with
 | zero => exact absurd h (by simp [laws_least.f])
 | succ k =>
 simp only [laws_least.f] at h
 have HR0 := aM hr0
 have HC0 := aM hc0
 clear hr0 hc0
 have HO2 := aM (show Kd.R Kd.bool 4 w w0.heap.size (fun k_ => (P2_ k_ ∨ w.heap.size ≤ k_)) u9000_ l2 from Kd.R_mono ho2 (fun k_ hk => (.inl hk)))
 have HK := aM (Kept.refl w (fun k_ => P2_ k_))
 have HW0 := aM hB.size
 have HB := aM hB
 clear hB
 have H : (if a1 = (l0.length : Int) then (some (0, l2)) else (laws_least.l0 k l0 a1 l2 (-1) 0)) = some (r1, r2) := h
 clear h
 replace H := iQ_ H
 rcases H with ⟨c4b0, c4b1, H⟩ | ⟨c4, c4b0, c4b1, H⟩
 {
 simp only [Option.some.injEq, Prod.mk.injEq] at H
 obtain ⟨rfl, rfl⟩ := H
 go_enter Try.func19, Try.ntmps19
 go_wp2
 go_ret
 exact ⟨qzw, by (with_reducible repeat (first | apply Kd.R_alloc | apply Kd.R_drewN | apply Kd.R_drew)); exact HO2.out, qz1, qz2⟩
 }
 {
 have H' := aM H
 clear H
 go_enter Try.func19, Try.ntmps19
 go_wp2
 go_loopg [7, 8] k (fun kq v7 v8 w' => ∃ (x2_1 : List Bool) (x7_1 : Int) (x8_1 : Int), v7 = .int .i64 x7_1 ∧ v8 = .int .i64 x8_1 ∧ Aside0 (laws_least.l0 kq l0 a1 x2_1 x7_1 x8_1 = some (r1, r2)) ∧ Aside0 (kq ≤ k) ∧ Aside0 (Kd.R Kd.bool 4 w' w0.heap.size (fun k_ => (P2_ k_ ∨ w.heap.size ≤ k_)) u9000_ x2_1) ∧ Aside0 (Kept w w' (fun k_ => P2_ k_)) ∧ Aside0 (Below w0.heap.size w0 w'))
 case atStart => exact ⟨(l2), ((-1)), (0), qz3, qz3, H', ⟨Nat.le_refl _⟩, ⟨rr_ HO2.out⟩, ⟨qz2⟩, ⟨qz1⟩⟩
 case round =>
 clear H'
 try clear c4
 try clear c4b0
 try clear c4b1
 obtain ⟨x2_1, x7_1, x8_1, rfl, rfl, HA, HK1, HO_2, HK, HB⟩ := hrel
 cases gk with
 | zero => exact absurd HA.out (by simp [laws_least.l0])
 | succ k1 =>
 have H := HA.out
 clear HA
 simp only [laws_least.l0] at H
 replace H := iD_ H
 obtain ⟨c5b0, H⟩ := H
 replace H := iD_ H
 obtain ⟨c6b0, H⟩ := H
 replace H := iE_ H
 rcases H with ⟨c7b0, H⟩ | ⟨c7b0, H⟩
 {
 replace H := iD_ H
 obtain ⟨c8b0, H⟩ := H
 replace H := iD_ H
 obtain ⟨c9b0, H⟩ := H
 obtain ⟨bq10, hbq10⟩ : ∃ b_ : Bool, b_ = (rdOf false x2_1 x8_1) := ⟨_, rfl⟩
 replace H : (if bq10 = true then (laws_least.l0 k1 l0 a1 x2_1 x7_1 (wrap64 (x8_1 + 1))) else ((laws_least.f k1 l0 (wrap64 (a1 + 1)) (x2_1.set (x8_1 : Int).toNat true)).bind fun bt291 => ((some (bt291.2.set (x8_1 : Int).toNat false : List Bool)).bind fun y293 => (if x7_1 < 0 then (laws_least.l0 k1 l0 a1 y293 (wrap64 ((rd (rd_L1 l0 a1) x8_1) + bt291.1)) (wrap64 (x8_1 + 1))) else (if (wrap64 ((rd (rd_L1 l0 a1) x8_1) + bt291.1)) < x7_1 then (laws_least.l0 k1 l0 a1 y293 (wrap64 ((rd (rd_L1 l0 a1) x8_1) + bt291.1)) (wrap64 (x8_1 + 1))) else (laws_least.l0 k1 l0 a1 y293 x7_1 (wrap64 (x8_1 + 1)))))))) = some (r1, r2) := by rw [← hbq10] at H; exact H
 have Nbq10 := aM hbq10
 clear hbq10
 replace H := iB_ H
 rcases H with ⟨rfl, H⟩ | ⟨rfl, H⟩
 {
 have H' := aM H
 clear H
 have p286 : (0 ≤ (a1 : Int)) = True := et_
 have q286 : (a1 < (l0.length : Int)) = True := et_
 obtain ⟨ad286, A286_0, c286_0, e286, hx286_0, hl286_0, hi286_0⟩ := at_L1 (Kd.C_kept_now HR0.out HK.out) a1 dt_ dt_
 cases e286
 have HR286_0 := aM hi286_0
 have HC286_0 := aM hl286_0
 clear hi286_0 hl286_0
 obtain ⟨Ao12, co12, eo12⟩ := Kd.R_slice HO_2.out
 subst eo12
 have p287 : (0 ≤ (x8_1 : Int)) = True := et_
 have q287 : (x8_1 < (x2_1.length : Int)) = True := et_
 obtain ⟨ad287, e287, hx287_0⟩ := Kd.at_bool (Kd.R_reads' HO_2.out).2.2 x8_1 dt_ dt_
 (try rw [← Nbq10.out] at hx287_0)
 cases e287
 go_wp2
 go_roundg k1
 case measure => have := HK1.out; omega
 case rel => exact ⟨(x2_1), (x7_1), (wrap64 (x8_1 + 1)), qz3, qz3, H', ⟨by have := HK1.out; omega⟩, ⟨rm_ HO_2.out⟩, ⟨qz2⟩, ⟨qz1⟩⟩
 }
 {
 obtain ⟨y288, hy288⟩ : ∃ y_ : List Bool, y_ = (x2_1.set (x8_1 : Int).toNat true) := ⟨_, rfl⟩
 replace H : ((laws_least.f k1 l0 (wrap64 (a1 + 1)) y288).bind fun bt291 => ((some (bt291.2.set (x8_1 : Int).toNat false : List Bool)).bind fun y293 => (if x7_1 < 0 then (laws_least.l0 k1 l0 a1 y293 (wrap64 ((rd (rd_L1 l0 a1) x8_1) + bt291.1)) (wrap64 (x8_1 + 1))) else (if (wrap64 ((rd (rd_L1 l0 a1) x8_1) + bt291.1)) < x7_1 then (laws_least.l0 k1 l0 a1 y293 (wrap64 ((rd (rd_L1 l0 a1) x8_1) + bt291.1)) (wrap64 (x8_1 + 1))) else (laws_least.l0 k1 l0 a1 y293 x7_1 (wrap64 (x8_1 + 1))))))) = some (r1, r2) := by first | (rw [hy288]; exact H) | exact H
 have Ny288 := aM hy288
 clear hy288
 replace H := Option.bind_eq_some_iff.mp H
 obtain ⟨⟨t291, t292⟩, A140, H⟩ := H
 try dsimp only at H
 have A14 := aM A140
 clear A140
 obtain ⟨y293, hy293⟩ : ∃ y_ : List Bool, y_ = (t292.set (x8_1 : Int).toNat false) := ⟨_, rfl⟩
 replace H := yB_ hy293 H
 have Ny293 := aM hy293
 clear hy293
 replace H := iE_ H
 rcases H with ⟨c16b0, H⟩ | ⟨c16b0, H⟩
 {
 have H' := aM H
 clear H
 have p286 : (0 ≤ (a1 : Int)) = True := et_
 have q286 : (a1 < (l0.length : Int)) = True := et_
 obtain ⟨ad286, A286_0, c286_0, e286, hx286_0, hl286_0, hi286_0⟩ := at_L1 (Kd.C_kept_now HR0.out HK.out) a1 dt_ dt_
 cases e286
 have HR286_0 := aM hi286_0
 have HC286_0 := aM hl286_0
 clear hi286_0 hl286_0
 obtain ⟨Ao17, co17, eo17⟩ := Kd.R_slice HO_2.out
 subst eo17
 have p287 : (0 ≤ (x8_1 : Int)) = True := et_
 have q287 : (x8_1 < (x2_1.length : Int)) = True := et_
 obtain ⟨ad287, e287, hx287_0⟩ := Kd.at_bool (Kd.R_reads' HO_2.out).2.2 x8_1 dt_ dt_
 (try rw [← Nbq10.out] at hx287_0)
 cases e287
 have p13 : 0 ≤ (x8_1 : Int) := dt_
 have q13 : (x8_1 : Int) < ((x2_1.length : Int) : Int) := dt_
 obtain ⟨go13, co13, eo13, gb13, gl13, cl13, HG13⟩ := Kd.R_form HO_2.out (by omega)
 (first | cases eo13 | (injection eo13 with ea_ en_ ec_; (first | subst ea_ | (injection ea_ with ea_; subst ea_)); subst ec_; clear en_))
 have GB13 := aM gb13
 have GG13 := aM HG13
 clear gb13 gl13 HG13
 have HMgo13 := aM (show (P2_ go13 ∨ w.heap.size ≤ go13) from (HO_2.out.1 _ rfl))
 (first | simp only [add_plain] at hx287_0 | skip)
 obtain ⟨hx13_0, hf13_0⟩ := Kd.R_celln false HO_2.out (x8_1 : Int) p13 q13
 replace p13 := eq_true p13
 replace q13 := eq_true q13
 obtain ⟨hy18_, hz18_⟩ := Kd.R_celln false HO_2.out (x8_1 : Int) (dt_) (dt_)
 have HP18 := Kd.R_putg HO_2.out (x8_1 : Int) true
 try go_wp2_with (first | ((with_reducible refine gate_store (t := 4) (p := 29) rfl ?_); refine store_event (t := 4) (p := 29) (v := ?vo_w19) (w1 := (wr.setCell ⟨go13, (x8_1 : Int).toNat, none⟩ (.bool true))) ?hg ?ho ?hn ?hr ?_; (case ho => rfl); (case hg => rfl); (case hn => rfl); (case hr => exact qz10); intro w19 hw; have hg : wr.grownBy w19 (some go13) := (by rw [hw]; exact HP18.2); have hp_ : Kd.R Kd.bool 4 w19 w0.heap.size (fun k_ => (P2_ k_ ∨ w.heap.size ≤ k_)) (.slice (some ⟨go13, 0, none⟩) x2_1.length co17) y288 := (by rw [hw, Ny288.out]; exact HP18.1); clear HP18; replace HB := aM ((by rw [hw]; exact below_set (HB.out) GB13.out : Below w0.heap.size w0 w19)); replace HK := aM (Kept.of_grown (S := (fun k_ => P2_ k_)) hg qz2 (fun k_ e_ => (HO_2.out.1 k_ e_))); replace HO_2 := aM (hp_); clear hg hw hp_))
 replace HO_2 := aM (Kd.R_drew HO_2.out)
 replace HK := aM (Kept.drew HK.out)
 replace HB := aM (below_drew1 HB.out)
 have p289 : (0 ≤ (a1 : Int)) = True := et_
 have q289 : (a1 < (l0.length : Int)) = True := et_
 obtain ⟨ad289, A289_0, c289_0, e289, hx289_0, hl289_0, hi289_0⟩ := at_L1 (Kd.C_kept_now HR0.out HK.out) a1 dt_ dt_
 have hw289_0 := hx289_0
 obtain rfl : ad286 = ad289 := (by injection e289)
 have HR289_0 := aM hi289_0
 have HC289_0 := aM hl289_0
 clear hi289_0 hl289_0
 have p290 : (0 ≤ (x8_1 : Int)) = True := et_
 have q290 : (x8_1 < ((rd_L1 l0 a1).length : Int)) = True := et_
 obtain ⟨ad290, e290, hx290_0⟩ := Kd.at_int qz21 x8_1 dt_ dt_
 cases e290
 refine start_ (n := 14) (S := fun w' => w'.cell? (ad286.add (a1).toNat) = some (.slice (some ad290) (rd_L1 l0 a1).length c289_0) ∧ w'.cell? (ad290.add (x8_1).toNat) = some (.int .i64 (rd (rd_L1 l0 a1) x8_1))) (ds := []) #[false, false, false, false, false, false, false, false, false, false, false, false, false, false] (by kernel_rfl) rfl rfl ⟨hx289_0, hx290_0⟩ (fun hHeld => ?_); refine with_tabW laws_least.tab9 laws_least.bits9 (fun HT_ HW_ => ?_)
 generalize w19.drew = w20 at HO_2 HK HB HR289_0 hx289_0 hx290_0 hHeld ⊢
 refine pI_ 0 30 (bqz 14 1) ?_
 refine jI_ 1 31 ?_
 refine jI_ 2 32 ?_
 refine jI_ 4 34 ?_
 refine jI_ 7 37 ?_
 refine jI_ 8 38 ?_
 refine jI_ 9 39 ?_
 refine jI_ 10 40 ?_
 refine sI2_ 3 33 ?_
 refine jI_ 5 35 ?_
 refine sI2_ 6 36 ?_
 refine oI_ 11 41 (bqz 14 4095) (fun K hK => ?_)
 refine goes_ Try.func19 (by kernel_rfl) rfl #[.slice (some ad286) l0.length c0, .int .i64 (wrap64 (a1 + 1)), .slice (some ⟨go13, 0, none⟩) x2_1.length co17] (by rfl) rfl rfl qz4 ?_
 with_reducible refine (ih k1 (by have := HK1.out; omega) _ _ l0 (wrap64 (a1 + 1)) (fun k_ => some k_ = (.slice (some ⟨go13, 0, none⟩) x2_1.length co17 : Value).ownBlock) (.slice (some ⟨go13, 0, none⟩) x2_1.length co17) y288 t291 t292 w0 _ ?side1 ?side2 ?side3 ?side4 A14.out).mono ?_
 (case side1 => exact qz1)
 (case side2 => exact Kd.C_kept_call HR0.out qz2 (fun k_ hs_ => (fun e_ => (HO_2.out.1 k_ e_.symm)) hs_))
 (case side3 => exact HC0.out)
 (case side4 => exact Kd.R_tight rfl HO_2.out)
 rintro e w21 ⟨rfl, hy0, hb, hkp⟩
 have HS0_ := cell_kept (hHeld.1) hkp (leastH_ HR0.out (by have h_ := (dt_ : a1 < (l0.length : Int)); have g_ := (dt_ : 0 ≤ a1); omega) HO_2.out _)
 have HS1_ := cell_kept (hHeld.2) hkp (leastE_ HR0.out dt_ dt_ HK.out (hHeld.1) (by have h_ := (dt_ : x8_1 < ((rd_L1 l0 a1).length : Int)); have g_ := (dt_ : 0 ≤ x8_1); omega) HO_2.out _)
 refine ⟨_, rfl, ?_⟩
 replace HK := aM (Kept.then_ (S := (fun k_ => P2_ k_)) qz2 hkp (fun k_ hs_ => (fun e_ => (HO_2.out.1 k_ e_.symm)) hs_))
 replace HO_2 := aM (Kd.R_reok rfl hy0 (fun k_ e_ => HO_2.out.1 k_ e_))
 replace HB := aM (hb)
 (try clear hb)
 (try clear hkp)
 (try clear hy0)
 refine hK.out _ _ ⟨HS0_, HS1_⟩ (fun hHeld => ?_)
 clear hK K
 refine nm_ 41 ?_
 refine pI_ 12 42 (bqz 14 8191) ?_
 refine jI_ 13 9 ?_
 refine done_ (done_of HT_.out (by kernel_rfl)) ?_
 have p15 : (0 ≤ (x8_1 : Int)) = True := et_
 have q15 : ((x8_1 : Int) < ((x2_1.length : Int) : Int)) = True := et_
 obtain ⟨hx15_0, hf15_0⟩ := Kd.R_celln false HO_2.out (x8_1 : Int) dt_ dt_
 obtain ⟨hy22_, hz22_⟩ := Kd.R_celln false HO_2.out (x8_1 : Int) (dt_) (dt_)
 have HP22 := Kd.R_putg HO_2.out (x8_1 : Int) false
 try go_wp2_with (first | ((with_reducible refine gate_store (t := 4) (p := 45) rfl ?_); refine store_event (t := 4) (p := 45) (v := ?vo_w23) (w1 := (w21.setCell ⟨go13, (x8_1 : Int).toNat, none⟩ (.bool false))) ?hg ?ho ?hn ?hr ?_; (case ho => rfl); (case hg => rfl); (case hn => rfl); (case hr => exact qz10); intro w23 hw; have hg : w21.grownBy w23 (some go13) := (by rw [hw]; exact HP22.2); have hp_ : Kd.R Kd.bool 4 w23 w0.heap.size (fun k_ => (P2_ k_ ∨ w.heap.size ≤ k_)) (.slice (some ⟨go13, 0, none⟩) x2_1.length co17) y293 := (by rw [hw, Ny293.out]; exact HP22.1); clear HP22; replace HB := aM ((by rw [hw]; exact below_set (HB.out) GB13.out : Below w0.heap.size w0 w23)); replace HK := aM (Kept.of_grown (S := (fun k_ => P2_ k_)) hg qz2 (fun k_ e_ => (HO_2.out.1 k_ e_))); replace HO_2 := aM (hp_); clear hg hw hp_))
 go_roundg k1
 case measure => have := HK1.out; omega
 case rel => exact ⟨(y293), (wrap64 ((rd (rd_L1 l0 a1) x8_1) + t291)), (wrap64 (x8_1 + 1)), qz3, qz3, H', ⟨by have := HK1.out; omega⟩, ⟨rm_ HO_2.out⟩, ⟨qz2⟩, ⟨qz1⟩⟩
 }
 {
 replace H := iE_ H
 rcases H with ⟨c24b0, H⟩ | ⟨c24b0, H⟩
 {
 have H' := aM H
 clear H
 have p286 : (0 ≤ (a1 : Int)) = True := et_
 have q286 : (a1 < (l0.length : Int)) = True := et_
 obtain ⟨ad286, A286_0, c286_0, e286, hx286_0, hl286_0, hi286_0⟩ := at_L1 (Kd.C_kept_now HR0.out HK.out) a1 dt_ dt_
 cases e286
 have HR286_0 := aM hi286_0
 have HC286_0 := aM hl286_0
 clear hi286_0 hl286_0
 obtain ⟨Ao25, co25, eo25⟩ := Kd.R_slice HO_2.out
 subst eo25
 have p287 : (0 ≤ (x8_1 : Int)) = True := et_
 have q287 : (x8_1 < (x2_1.length : Int)) = True := et_
 obtain ⟨ad287, e287, hx287_0⟩ := Kd.at_bool (Kd.R_reads' HO_2.out).2.2 x8_1 dt_ dt_
 (try rw [← Nbq10.out] at hx287_0)
 cases e287
 have p13 : 0 ≤ (x8_1 : Int) := dt_
 have q13 : (x8_1 : Int) < ((x2_1.length : Int) : Int) := dt_
 obtain ⟨go13, co13, eo13, gb13, gl13, cl13, HG13⟩ := Kd.R_form HO_2.out (by omega)
 (first | cases eo13 | (injection eo13 with ea_ en_ ec_; (first | subst ea_ | (injection ea_ with ea_; subst ea_)); subst ec_; clear en_))
 have GB13 := aM gb13
 have GG13 := aM HG13
 clear gb13 gl13 HG13
 have HMgo13 := aM (show (P2_ go13 ∨ w.heap.size ≤ go13) from (HO_2.out.1 _ rfl))
 (first | simp only [add_plain] at hx287_0 | skip)
 obtain ⟨hx13_0, hf13_0⟩ := Kd.R_celln false HO_2.out (x8_1 : Int) p13 q13
 replace p13 := eq_true p13
 replace q13 := eq_true q13
 obtain ⟨hy26_, hz26_⟩ := Kd.R_celln false HO_2.out (x8_1 : Int) (dt_) (dt_)
 have HP26 := Kd.R_putg HO_2.out (x8_1 : Int) true
 try go_wp2_with (first | ((with_reducible refine gate_store (t := 4) (p := 29) rfl ?_); refine store_event (t := 4) (p := 29) (v := ?vo_w27) (w1 := (wr.setCell ⟨go13, (x8_1 : Int).toNat, none⟩ (.bool true))) ?hg ?ho ?hn ?hr ?_; (case ho => rfl); (case hg => rfl); (case hn => rfl); (case hr => exact qz10); intro w27 hw; have hg : wr.grownBy w27 (some go13) := (by rw [hw]; exact HP26.2); have hp_ : Kd.R Kd.bool 4 w27 w0.heap.size (fun k_ => (P2_ k_ ∨ w.heap.size ≤ k_)) (.slice (some ⟨go13, 0, none⟩) x2_1.length co25) y288 := (by rw [hw, Ny288.out]; exact HP26.1); clear HP26; replace HB := aM ((by rw [hw]; exact below_set (HB.out) GB13.out : Below w0.heap.size w0 w27)); replace HK := aM (Kept.of_grown (S := (fun k_ => P2_ k_)) hg qz2 (fun k_ e_ => (HO_2.out.1 k_ e_))); replace HO_2 := aM (hp_); clear hg hw hp_))
 replace HO_2 := aM (Kd.R_drew HO_2.out)
 replace HK := aM (Kept.drew HK.out)
 replace HB := aM (below_drew1 HB.out)
 have p289 : (0 ≤ (a1 : Int)) = True := et_
 have q289 : (a1 < (l0.length : Int)) = True := et_
 obtain ⟨ad289, A289_0, c289_0, e289, hx289_0, hl289_0, hi289_0⟩ := at_L1 (Kd.C_kept_now HR0.out HK.out) a1 dt_ dt_
 have hw289_0 := hx289_0
 obtain rfl : ad286 = ad289 := (by injection e289)
 have HR289_0 := aM hi289_0
 have HC289_0 := aM hl289_0
 clear hi289_0 hl289_0
 have p290 : (0 ≤ (x8_1 : Int)) = True := et_
 have q290 : (x8_1 < ((rd_L1 l0 a1).length : Int)) = True := et_
 obtain ⟨ad290, e290, hx290_0⟩ := Kd.at_int qz21 x8_1 dt_ dt_
 cases e290
 refine start_ (n := 14) (S := fun w' => w'.cell? (ad286.add (a1).toNat) = some (.slice (some ad290) (rd_L1 l0 a1).length c289_0) ∧ w'.cell? (ad290.add (x8_1).toNat) = some (.int .i64 (rd (rd_L1 l0 a1) x8_1))) (ds := []) #[false, false, false, false, false, false, false, false, false, false, false, false, false, false] (by kernel_rfl) rfl rfl ⟨hx289_0, hx290_0⟩ (fun hHeld => ?_); refine with_tabW laws_least.tab9 laws_least.bits9 (fun HT_ HW_ => ?_)
 generalize w27.drew = w28 at HO_2 HK HB HR289_0 hx289_0 hx290_0 hHeld ⊢
 refine pI_ 0 30 (bqz 14 1) ?_
 refine jI_ 1 31 ?_
 refine jI_ 2 32 ?_
 refine jI_ 4 34 ?_
 refine jI_ 7 37 ?_
 refine jI_ 8 38 ?_
 refine jI_ 9 39 ?_
 refine jI_ 10 40 ?_
 refine sI2_ 3 33 ?_
 refine jI_ 5 35 ?_
 refine sI2_ 6 36 ?_
 refine oI_ 11 41 (bqz 14 4095) (fun K hK => ?_)
 refine goes_ Try.func19 (by kernel_rfl) rfl #[.slice (some ad286) l0.length c0, .int .i64 (wrap64 (a1 + 1)), .slice (some ⟨go13, 0, none⟩) x2_1.length co25] (by rfl) rfl rfl qz4 ?_
 with_reducible refine (ih k1 (by have := HK1.out; omega) _ _ l0 (wrap64 (a1 + 1)) (fun k_ => some k_ = (.slice (some ⟨go13, 0, none⟩) x2_1.length co25 : Value).ownBlock) (.slice (some ⟨go13, 0, none⟩) x2_1.length co25) y288 t291 t292 w0 _ ?side1 ?side2 ?side3 ?side4 A14.out).mono ?_
 (case side1 => exact qz1)
 (case side2 => exact Kd.C_kept_call HR0.out qz2 (fun k_ hs_ => (fun e_ => (HO_2.out.1 k_ e_.symm)) hs_))
 (case side3 => exact HC0.out)
 (case side4 => exact Kd.R_tight rfl HO_2.out)
 rintro e w29 ⟨rfl, hy0, hb, hkp⟩
 have HS0_ := cell_kept (hHeld.1) hkp (leastH_ HR0.out (by have h_ := (dt_ : a1 < (l0.length : Int)); have g_ := (dt_ : 0 ≤ a1); omega) HO_2.out _)
 have HS1_ := cell_kept (hHeld.2) hkp (leastE_ HR0.out dt_ dt_ HK.out (hHeld.1) (by have h_ := (dt_ : x8_1 < ((rd_L1 l0 a1).length : Int)); have g_ := (dt_ : 0 ≤ x8_1); omega) HO_2.out _)
 refine ⟨_, rfl, ?_⟩
 replace HK := aM (Kept.then_ (S := (fun k_ => P2_ k_)) qz2 hkp (fun k_ hs_ => (fun e_ => (HO_2.out.1 k_ e_.symm)) hs_))
 replace HO_2 := aM (Kd.R_reok rfl hy0 (fun k_ e_ => HO_2.out.1 k_ e_))
 replace HB := aM (hb)
 (try clear hb)
 (try clear hkp)
 (try clear hy0)
 refine hK.out _ _ ⟨HS0_, HS1_⟩ (fun hHeld => ?_)
 clear hK K
 refine nm_ 41 ?_
 refine pI_ 12 42 (bqz 14 8191) ?_
 refine jI_ 13 9 ?_
 refine done_ (done_of HT_.out (by kernel_rfl)) ?_
 have p15 : (0 ≤ (x8_1 : Int)) = True := et_
 have q15 : ((x8_1 : Int) < ((x2_1.length : Int) : Int)) = True := et_
 obtain ⟨hx15_0, hf15_0⟩ := Kd.R_celln false HO_2.out (x8_1 : Int) dt_ dt_
 obtain ⟨hy30_, hz30_⟩ := Kd.R_celln false HO_2.out (x8_1 : Int) (dt_) (dt_)
 have HP30 := Kd.R_putg HO_2.out (x8_1 : Int) false
 try go_wp2_with (first | ((with_reducible refine gate_store (t := 4) (p := 45) rfl ?_); refine store_event (t := 4) (p := 45) (v := ?vo_w31) (w1 := (w29.setCell ⟨go13, (x8_1 : Int).toNat, none⟩ (.bool false))) ?hg ?ho ?hn ?hr ?_; (case ho => rfl); (case hg => rfl); (case hn => rfl); (case hr => exact qz10); intro w31 hw; have hg : w29.grownBy w31 (some go13) := (by rw [hw]; exact HP30.2); have hp_ : Kd.R Kd.bool 4 w31 w0.heap.size (fun k_ => (P2_ k_ ∨ w.heap.size ≤ k_)) (.slice (some ⟨go13, 0, none⟩) x2_1.length co25) y293 := (by rw [hw, Ny293.out]; exact HP30.1); clear HP30; replace HB := aM ((by rw [hw]; exact below_set (HB.out) GB13.out : Below w0.heap.size w0 w31)); replace HK := aM (Kept.of_grown (S := (fun k_ => P2_ k_)) hg qz2 (fun k_ e_ => (HO_2.out.1 k_ e_))); replace HO_2 := aM (hp_); clear hg hw hp_))
 go_roundg k1
 case measure => have := HK1.out; omega
 case rel => exact ⟨(y293), (wrap64 ((rd (rd_L1 l0 a1) x8_1) + t291)), (wrap64 (x8_1 + 1)), qz3, qz3, H', ⟨by have := HK1.out; omega⟩, ⟨rm_ HO_2.out⟩, ⟨qz2⟩, ⟨qz1⟩⟩
 }
 {
 have H' := aM H
 clear H
 have p286 : (0 ≤ (a1 : Int)) = True := et_
 have q286 : (a1 < (l0.length : Int)) = True := et_
 obtain ⟨ad286, A286_0, c286_0, e286, hx286_0, hl286_0, hi286_0⟩ := at_L1 (Kd.C_kept_now HR0.out HK.out) a1 dt_ dt_
 cases e286
 have HR286_0 := aM hi286_0
 have HC286_0 := aM hl286_0
 clear hi286_0 hl286_0
 obtain ⟨Ao32, co32, eo32⟩ := Kd.R_slice HO_2.out
 subst eo32
 have p287 : (0 ≤ (x8_1 : Int)) = True := et_
 have q287 : (x8_1 < (x2_1.length : Int)) = True := et_
 obtain ⟨ad287, e287, hx287_0⟩ := Kd.at_bool (Kd.R_reads' HO_2.out).2.2 x8_1 dt_ dt_
 (try rw [← Nbq10.out] at hx287_0)
 cases e287
 have p13 : 0 ≤ (x8_1 : Int) := dt_
 have q13 : (x8_1 : Int) < ((x2_1.length : Int) : Int) := dt_
 obtain ⟨go13, co13, eo13, gb13, gl13, cl13, HG13⟩ := Kd.R_form HO_2.out (by omega)
 (first | cases eo13 | (injection eo13 with ea_ en_ ec_; (first | subst ea_ | (injection ea_ with ea_; subst ea_)); subst ec_; clear en_))
 have GB13 := aM gb13
 have GG13 := aM HG13
 clear gb13 gl13 HG13
 have HMgo13 := aM (show (P2_ go13 ∨ w.heap.size ≤ go13) from (HO_2.out.1 _ rfl))
 (first | simp only [add_plain] at hx287_0 | skip)
 obtain ⟨hx13_0, hf13_0⟩ := Kd.R_celln false HO_2.out (x8_1 : Int) p13 q13
 replace p13 := eq_true p13
 replace q13 := eq_true q13
 obtain ⟨hy33_, hz33_⟩ := Kd.R_celln false HO_2.out (x8_1 : Int) (dt_) (dt_)
 have HP33 := Kd.R_putg HO_2.out (x8_1 : Int) true
 try go_wp2_with (first | ((with_reducible refine gate_store (t := 4) (p := 29) rfl ?_); refine store_event (t := 4) (p := 29) (v := ?vo_w34) (w1 := (wr.setCell ⟨go13, (x8_1 : Int).toNat, none⟩ (.bool true))) ?hg ?ho ?hn ?hr ?_; (case ho => rfl); (case hg => rfl); (case hn => rfl); (case hr => exact qz10); intro w34 hw; have hg : wr.grownBy w34 (some go13) := (by rw [hw]; exact HP33.2); have hp_ : Kd.R Kd.bool 4 w34 w0.heap.size (fun k_ => (P2_ k_ ∨ w.heap.size ≤ k_)) (.slice (some ⟨go13, 0, none⟩) x2_1.length co32) y288 := (by rw [hw, Ny288.out]; exact HP33.1); clear HP33; replace HB := aM ((by rw [hw]; exact below_set (HB.out) GB13.out : Below w0.heap.size w0 w34)); replace HK := aM (Kept.of_grown (S := (fun k_ => P2_ k_)) hg qz2 (fun k_ e_ => (HO_2.out.1 k_ e_))); replace HO_2 := aM (hp_); clear hg hw hp_))
 replace HO_2 := aM (Kd.R_drew HO_2.out)
 replace HK := aM (Kept.drew HK.out)
 replace HB := aM (below_drew1 HB.out)
 have p289 : (0 ≤ (a1 : Int)) = True := et_
 have q289 : (a1 < (l0.length : Int)) = True := et_
 obtain ⟨ad289, A289_0, c289_0, e289, hx289_0, hl289_0, hi289_0⟩ := at_L1 (Kd.C_kept_now HR0.out HK.out) a1 dt_ dt_
 have hw289_0 := hx289_0
 obtain rfl : ad286 = ad289 := (by injection e289)
 have HR289_0 := aM hi289_0
 have HC289_0 := aM hl289_0
 clear hi289_0 hl289_0
 have p290 : (0 ≤ (x8_1 : Int)) = True := et_
 have q290 : (x8_1 < ((rd_L1 l0 a1).length : Int)) = True := et_
 obtain ⟨ad290, e290, hx290_0⟩ := Kd.at_int qz21 x8_1 dt_ dt_
 cases e290
 refine start_ (n := 14) (S := fun w' => w'.cell? (ad286.add (a1).toNat) = some (.slice (some ad290) (rd_L1 l0 a1).length c289_0) ∧ w'.cell? (ad290.add (x8_1).toNat) = some (.int .i64 (rd (rd_L1 l0 a1) x8_1))) (ds := []) #[false, false, false, false, false, false, false, false, false, false, false, false, false, false] (by kernel_rfl) rfl rfl ⟨hx289_0, hx290_0⟩ (fun hHeld => ?_); refine with_tabW laws_least.tab9 laws_least.bits9 (fun HT_ HW_ => ?_)
 generalize w34.drew = w35 at HO_2 HK HB HR289_0 hx289_0 hx290_0 hHeld ⊢
 refine pI_ 0 30 (bqz 14 1) ?_
 refine jI_ 1 31 ?_
 refine jI_ 2 32 ?_
 refine jI_ 4 34 ?_
 refine jI_ 7 37 ?_
 refine jI_ 8 38 ?_
 refine jI_ 9 39 ?_
 refine jI_ 10 40 ?_
 refine sI2_ 3 33 ?_
 refine jI_ 5 35 ?_
 refine sI2_ 6 36 ?_
 refine oI_ 11 41 (bqz 14 4095) (fun K hK => ?_)
 refine goes_ Try.func19 (by kernel_rfl) rfl #[.slice (some ad286) l0.length c0, .int .i64 (wrap64 (a1 + 1)), .slice (some ⟨go13, 0, none⟩) x2_1.length co32] (by rfl) rfl rfl qz4 ?_
 with_reducible refine (ih k1 (by have := HK1.out; omega) _ _ l0 (wrap64 (a1 + 1)) (fun k_ => some k_ = (.slice (some ⟨go13, 0, none⟩) x2_1.length co32 : Value).ownBlock) (.slice (some ⟨go13, 0, none⟩) x2_1.length co32) y288 t291 t292 w0 _ ?side1 ?side2 ?side3 ?side4 A14.out).mono ?_
 (case side1 => exact qz1)
 (case side2 => exact Kd.C_kept_call HR0.out qz2 (fun k_ hs_ => (fun e_ => (HO_2.out.1 k_ e_.symm)) hs_))
 (case side3 => exact HC0.out)
 (case side4 => exact Kd.R_tight rfl HO_2.out)
 rintro e w36 ⟨rfl, hy0, hb, hkp⟩
 have HS0_ := cell_kept (hHeld.1) hkp (leastH_ HR0.out (by have h_ := (dt_ : a1 < (l0.length : Int)); have g_ := (dt_ : 0 ≤ a1); omega) HO_2.out _)
 have HS1_ := cell_kept (hHeld.2) hkp (leastE_ HR0.out dt_ dt_ HK.out (hHeld.1) (by have h_ := (dt_ : x8_1 < ((rd_L1 l0 a1).length : Int)); have g_ := (dt_ : 0 ≤ x8_1); omega) HO_2.out _)
 refine ⟨_, rfl, ?_⟩
 replace HK := aM (Kept.then_ (S := (fun k_ => P2_ k_)) qz2 hkp (fun k_ hs_ => (fun e_ => (HO_2.out.1 k_ e_.symm)) hs_))
 replace HO_2 := aM (Kd.R_reok rfl hy0 (fun k_ e_ => HO_2.out.1 k_ e_))
 replace HB := aM (hb)
 (try clear hb)
 (try clear hkp)
 (try clear hy0)
 refine hK.out _ _ ⟨HS0_, HS1_⟩ (fun hHeld => ?_)
 clear hK K
 refine nm_ 41 ?_
 refine pI_ 12 42 (bqz 14 8191) ?_
 refine jI_ 13 9 ?_
 refine done_ (done_of HT_.out (by kernel_rfl)) ?_
 have p15 : (0 ≤ (x8_1 : Int)) = True := et_
 have q15 : ((x8_1 : Int) < ((x2_1.length : Int) : Int)) = True := et_
 obtain ⟨hx15_0, hf15_0⟩ := Kd.R_celln false HO_2.out (x8_1 : Int) dt_ dt_
 obtain ⟨hy37_, hz37_⟩ := Kd.R_celln false HO_2.out (x8_1 : Int) (dt_) (dt_)
 have HP37 := Kd.R_putg HO_2.out (x8_1 : Int) false
 try go_wp2_with (first | ((with_reducible refine gate_store (t := 4) (p := 45) rfl ?_); refine store_event (t := 4) (p := 45) (v := ?vo_w38) (w1 := (w36.setCell ⟨go13, (x8_1 : Int).toNat, none⟩ (.bool false))) ?hg ?ho ?hn ?hr ?_; (case ho => rfl); (case hg => rfl); (case hn => rfl); (case hr => exact qz10); intro w38 hw; have hg : w36.grownBy w38 (some go13) := (by rw [hw]; exact HP37.2); have hp_ : Kd.R Kd.bool 4 w38 w0.heap.size (fun k_ => (P2_ k_ ∨ w.heap.size ≤ k_)) (.slice (some ⟨go13, 0, none⟩) x2_1.length co32) y293 := (by rw [hw, Ny293.out]; exact HP37.1); clear HP37; replace HB := aM ((by rw [hw]; exact below_set (HB.out) GB13.out : Below w0.heap.size w0 w38)); replace HK := aM (Kept.of_grown (S := (fun k_ => P2_ k_)) hg qz2 (fun k_ e_ => (HO_2.out.1 k_ e_))); replace HO_2 := aM (hp_); clear hg hw hp_))
 go_roundg k1
 case measure => have := HK1.out; omega
 case rel => exact ⟨(y293), (x7_1), (wrap64 (x8_1 + 1)), qz3, qz3, H', ⟨by have := HK1.out; omega⟩, ⟨rm_ HO_2.out⟩, ⟨qz2⟩, ⟨qz1⟩⟩
 }
 }
 }
 }
 {
 simp only [Option.some.injEq, Prod.mk.injEq] at H
 obtain ⟨rfl, rfl⟩ := H
 have p286 : (0 ≤ (a1 : Int)) = True := et_
 have q286 : (a1 < (l0.length : Int)) = True := et_
 obtain ⟨ad286, A286_0, c286_0, e286, hx286_0, hl286_0, hi286_0⟩ := at_L1 (Kd.C_kept_now HR0.out HK.out) a1 dt_ dt_
 cases e286
 have HR286_0 := aM hi286_0
 have HC286_0 := aM hl286_0
 clear hi286_0 hl286_0
 go_wp2
 go_ret
 exact ⟨qzw, by (with_reducible repeat (first | apply Kd.R_alloc | apply Kd.R_drewN | apply Kd.R_drew)); exact HO_2.out, qz1, qz2⟩
 }
 }
end Go.Proofs.Ytbebfhlejnidkaa.PFnMatched
