-- Made by a program of this session out of the translation. Lean checks it.
import Derived.Test.YtankmdbbgepmbaaPFnLivelyx8
namespace Go.Proofs.Ytankmdbbgepmbaa.PFnLively
open Go.RowKit Go.Proofs.YtankmdbbgepmbaaW.PrintWords Go.Proofs.YtankmdbbgepmbaaW.PrintLast Go.Proofs.YtankmdbbgepmbaaW.PrintMore
attribute [local go_sem] max2_int min2_int max_two min_two max_three min_three max_four min_four   -- for this text's walks alone
set_option linter.unusedVariables false
set_option linter.unusedSimpArgs false

/-! ### impl_copyCrew: function 86 -/
def impl_copyCrew.f (l0 : List (S37)) : Option ((List (S37))) := if ([] : List (S37)).length + l0.length < 3518437208883 then (some (([] : List (S37)) ++ l0)) else (none)
set_option maxHeartbeats 8000000 in
set_option maxRecDepth 100000 in
theorem impl_copyCrew.calls (A0 : Option Addr) (c0 : Nat) (l0 : List (S37)) (r : List (S37)) (w : World) (hr0 : Kd.C k37 w A0 l0.length l0) (hc0 : l0.length ≤ c0) (h : impl_copyCrew.f l0 = some r) :
  Calls Try.prog 86 #[.slice A0 l0.length c0] w fun e w' => ∃ v0_ : Value, e = .returned (v0_) ∧ Kd.R k37 37 w' w.heap.size (fun _ => True) v0_ r ∧ Below w.heap.size w w' := by
 have HR0 := aM hr0
 have HC0 := aM hc0
 clear hr0 hc0
 have HB := aM (Below.refl w.heap.size w)
 unfold impl_copyCrew.f at h
 have H := h
 clear h
 replace H := iN_ H
 obtain ⟨c2, H⟩ := H
 have LMc2 := aM c2
 clear c2
 obtain ⟨y185, hy185⟩ : ∃ y_ : List (S37), y_ = (([] : List (S37)) ++ l0) := ⟨_, rfl⟩
 replace H : (some y185) = some r := by first | (rw [hy185]; exact H) | exact H
 have Ny185 := aM hy185
 clear hy185
 obtain rfl := Option.some.inj H
 go_enter Try.func86, Try.ntmps86
 go_wp2_with (first | ((with_reducible refine gate_builtin (b := .append) (xs := #[.const (.slice none 0 0), .tmp 3]) rfl ?_); at_builtin; refine Kd.R_append_rows k37 (w0 := w) w.heap.size rfl (.const (.slice none 0 0)) (.tmp 3) 26 37 (.agg #[(.int .i64 0), (.int .i64 0), (.int .i64 0), (.bool false), (.int .i64 0)]) 40 rfl Try.underlying26 info37 rfl (by decide) (by omega) (.slice none 0 0) ([] : List (S37)) l0 _ _ _ (fun _ => True) (fun _ => False) rfl rfl ?aO ?aR (fun _ _ h => h) (fun _ h => h.elim) ?aF ?aB ?aS ?aL ?_; (case aR => exact qz11); (case aB => exact qz1); (case aF => exact qz12); (case aO => exact ((Kd.R_nil _ _ _ _ (fun _ => True)))); (case aS => exact qz19); (case aL => have := LMc2.out; omega); intro v186 w3 ho hb hg hat; rw [← Ny185.out] at ho; replace HB := aM (hb); have HO187 := aM (ho); clear ho hb hg hat))
 go_ret
 exact ⟨_, qzw, by (with_reducible repeat (first | apply Kd.R_alloc | apply Kd.R_drewN | apply Kd.R_drew)); exact HO187.out, qz1⟩
/-! ### impl_rests: function 87 -/
def impl_rests.f (a0_0 : Int) (a0_1 : Int) (a0_2 : Int) (a0_3 : Bool) (a0_4 : Int) : Option (Bool) := if a0_2 = (-1) then (some true) else (some (a0_1 == a0_2))
set_option maxHeartbeats 8000000 in
set_option maxRecDepth 100000 in
theorem impl_rests.calls (a0_0 : Int) (a0_1 : Int) (a0_2 : Int) (a0_3 : Bool) (a0_4 : Int) (r : Bool) (w : World) (h : impl_rests.f a0_0 a0_1 a0_2 a0_3 a0_4 = some r) :
  Calls Try.prog 87 #[.agg #[.int .i64 a0_0, .int .i64 a0_1, .int .i64 a0_2, .bool a0_3, .int .i64 a0_4]] w fun e w' => e = .returned (.bool r) ∧ Below w.heap.size w w' := by
 have hu37 := Try.underlying37
 have HB := aM (Below.refl w.heap.size w)
 unfold impl_rests.f at h
 have H := h
 clear h
 replace H := iQ_ H
 rcases H with ⟨c2b0, c2b1, H⟩ | ⟨c2, c2b0, c2b1, H⟩
 {
 obtain rfl := Option.some.inj H
 go_enter Try.func87, Try.ntmps87
 go_wp2_with (first | ((with_reducible refine gate_dst (N := 1) rfl ?_); refine bx_ 1 #[.int .i64 a0_0, .int .i64 a0_1, .int .i64 a0_2, .bool a0_3, .int .i64 a0_4] 37 ?_; intro gb188 hg w3 hbox hb; have BK188 := aM (hbox); have GW188 := aM (bz_ w hg qz1); have GE188 := GW188; replace HB := bS_ hb; clear hb hbox hg; obtain ⟨hcz4_0, hcz4_1, hcz4_2, hcz4_3, hcz4_4, hfz4_0, hfz4_1, hfz4_2, hfz4_3, hfz4_4⟩ := b10_ BK188.out))
 go_ret
 exact ⟨qzw, qz1⟩
 }
 {
 obtain rfl := Option.some.inj H
 go_enter Try.func87, Try.ntmps87
 go_wp2_with (first | ((with_reducible refine gate_dst (N := 1) rfl ?_); refine bx_ 1 #[.int .i64 a0_0, .int .i64 a0_1, .int .i64 a0_2, .bool a0_3, .int .i64 a0_4] 37 ?_; intro gb188 hg w5 hbox hb; have BK188 := aM (hbox); have GW188 := aM (bz_ w hg qz1); have GE188 := GW188; replace HB := bS_ hb; clear hb hbox hg; obtain ⟨hcz6_0, hcz6_1, hcz6_2, hcz6_3, hcz6_4, hfz6_0, hfz6_1, hfz6_2, hfz6_3, hfz6_4⟩ := b10_ BK188.out))
 go_ret
 exact ⟨qzw, qz1⟩
 }
/-! ### impl_Advance: function 44 -/
theorem min_if37 (x : Int) : (if 1000000 < x then 1000000 else x) = min x 1000000 := by split <;> omega
theorem k37_at {W : World} {base g n cap : Nat} {ok : Nat → Prop} {xs : List S37} (h : Kd.R k37 37 W base ok (.slice (some ⟨g, 0, none⟩) n cap) xs) (i : Int) (h0 : 0 ≤ i) (h1 : i < n) : W.cell? ⟨g, i.toNat * 5, none⟩ = some (.int .i64 (rd_T37 xs i).f0) ∧ W.cell? ⟨g, i.toNat * 5 + 1, none⟩ = some (.int .i64 (rd_T37 xs i).f1) ∧ W.cell? ⟨g, i.toNat * 5 + 2, none⟩ = some (.int .i64 (rd_T37 xs i).f2) ∧ W.cell? ⟨g, i.toNat * 5 + 3, none⟩ = some (.bool (rd_T37 xs i).f3) ∧ W.cell? ⟨g, i.toNat * 5 + 4, none⟩ = some (.int .i64 (rd_T37 xs i).f4) ∧ W.frozen? ⟨g, i.toNat * 5 + 1, none⟩ = false ∧ W.frozen? ⟨g, i.toNat * 5 + 4, none⟩ = false := by
 obtain ⟨c, hcl, hM, hcc, hfr⟩ := Kd.R_elem h z37 i h0 h1
 obtain rfl := k37_openM hM
 exact ⟨hcc 0 _ rfl, hcc 1 _ rfl, hcc 2 _ rfl, hcc 3 _ rfl, hcc 4 _ rfl, hfr 1, hfr 4⟩
theorem k37_f1 {W : World} {base g n cap : Nat} {ok : Nat → Prop} {xs : List S37} (h : Kd.R k37 37 W base ok (.slice (some ⟨g, 0, none⟩) n cap) xs) (i : Int) (h0 : 0 ≤ i) (h1 : i < n) (v : Int) : Kd.R k37 37 (W.setCell ⟨g, i.toNat * 5 + 1, none⟩ (.int .i64 v)) base ok (.slice (some ⟨g, 0, none⟩) n cap) (xs.set i.toNat { rd_T37 xs i with f1 := v }) := by
 obtain ⟨c, hcl, hM, hcc, hfr⟩ := Kd.R_elem h z37 i h0 h1
 obtain rfl := k37_openM hM
 exact (Kd.R_seg h i h0 h1 (seg := [.int .i64 v]) (j := 1) (x' := { rd_T37 xs i with f1 := v }) (okp := fun k => ok k ∧ k ≠ g) hcl hcc (by show 1 + 1 ≤ 5; decide) (k37_mkM W base _ { rd_T37 xs i with f1 := v }) (fun _ h => h)).1
theorem k37_f1s {W : World} {base g n cap : Nat} {ok : Nat → Prop} {xs : List S37} {y : S37} {i : Int} (h : Kd.R k37 37 W base ok (.slice (some ⟨g, 0, none⟩) n cap) (xs.set i.toNat y)) (h0 : 0 ≤ i) (h1 : i < n) (v : Int) : Kd.R k37 37 (W.setCell ⟨g, i.toNat * 5 + 1, none⟩ (.int .i64 v)) base ok (.slice (some ⟨g, 0, none⟩) n cap) (xs.set i.toNat { y with f1 := v }) := by
 have h2 := k37_f1 h i h0 h1 v
 have hn := (Kd.R_reads' h).1
 rw [List.length_set] at hn
 have e : rd_T37 (xs.set i.toNat y) i = y := by unfold rd_T37; rw [List.getD_eq_getElem?_getD, List.getElem?_set_self (by omega)]; rfl
 rw [e, List.set_set] at h2
 exact h2
theorem k37_f4 {W : World} {base g n cap : Nat} {ok : Nat → Prop} {xs : List S37} (h : Kd.R k37 37 W base ok (.slice (some ⟨g, 0, none⟩) n cap) xs) (i : Int) (h0 : 0 ≤ i) (h1 : i < n) (v : Int) : Kd.R k37 37 (W.setCell ⟨g, i.toNat * 5 + 4, none⟩ (.int .i64 v)) base ok (.slice (some ⟨g, 0, none⟩) n cap) (xs.set i.toNat { rd_T37 xs i with f4 := v }) := by
 obtain ⟨c, hcl, hM, hcc, hfr⟩ := Kd.R_elem h z37 i h0 h1
 obtain rfl := k37_openM hM
 exact (Kd.R_seg h i h0 h1 (seg := [.int .i64 v]) (j := 4) (x' := { rd_T37 xs i with f4 := v }) (okp := fun k => ok k ∧ k ≠ g) hcl hcc (by show 4 + 1 ≤ 5; decide) (k37_mkM W base _ { rd_T37 xs i with f4 := v }) (fun _ h => h)).1
theorem k37_f4s {W : World} {base g n cap : Nat} {ok : Nat → Prop} {xs : List S37} {y : S37} {i : Int} (h : Kd.R k37 37 W base ok (.slice (some ⟨g, 0, none⟩) n cap) (xs.set i.toNat y)) (h0 : 0 ≤ i) (h1 : i < n) (v : Int) : Kd.R k37 37 (W.setCell ⟨g, i.toNat * 5 + 4, none⟩ (.int .i64 v)) base ok (.slice (some ⟨g, 0, none⟩) n cap) (xs.set i.toNat { y with f4 := v }) := by
 have h2 := k37_f4 h i h0 h1 v
 have hn := (Kd.R_reads' h).1
 rw [List.length_set] at hn
 have e : rd_T37 (xs.set i.toNat y) i = y := by unfold rd_T37; rw [List.getD_eq_getElem?_getD, List.getElem?_set_self (by omega)]; rfl
 rw [e, List.set_set] at h2
 exact h2
theorem rd_set37 {xs : List S37} {i : Int} {y : S37} (h : i.toNat < xs.length) : rd_T37 (xs.set i.toNat y) i = y := by unfold rd_T37; rw [List.getD_eq_getElem?_getD, List.getElem?_set_self h]; rfl
def impl_Advance.one (r : S37) (v : Int) : S37 := if r.f2 = -1 ∨ v = r.f2 then ⟨r.f0, v, r.f2, r.f3, 0⟩ else ⟨r.f0, v, r.f2, r.f3, min (wrap64 (r.f4 + 1)) 1000000⟩
def impl_Advance.l0 : Nat → List S37 → List Int → Int → Option (List S37)
 | 0, _, _, _ => none
 | k + 1, out, nx, i => if i < (nx.length : Int) then (if 0 ≤ i then (if i < (out.length : Int) then impl_Advance.l0 k (out.set i.toNat (impl_Advance.one (rd_T37 out i) (rd nx i))) nx (wrap64 (i + 1)) else none) else none) else some out
def impl_Advance.f (k : Nat) (W H : Int) (cs : List Int) (crew : List S37) : Option (List S37) :=
 (impl_copyCrew.f crew).bind fun out => (impl_CrewOk.f k W H cs crew).bind fun b => if b = true then ((impl_Step.f k W H cs crew).bind fun nx => if nx.length ≤ 20 then impl_Advance.l0 k out nx 0 else none) else some out
theorem impl_Advance.mono_l : ∀ k, (∀ y0 y1 y2, LeO (impl_Advance.l0 k y0 y1 y2) (impl_Advance.l0 (k + 1) y0 y1 y2))
 | 0 => fun _ _ _ r h => by simp [impl_Advance.l0] at h
 | k + 1 => by
  have ih0 := impl_Advance.mono_l k
  intro y0 y1 y2
  unfold impl_Advance.l0
  exact qL
theorem impl_Advance.mono : ∀ a0 a1 a2 a3 k, LeO (impl_Advance.f k a0 a1 a2 a3) (impl_Advance.f (k + 1) a0 a1 a2 a3) := by
 intro a0 a1 a2 a3 k
 unfold impl_Advance.f
 repeat' first
  | (with_reducible first | exact impl_Advance.mono_l k _ _ _ | exact impl_CrewOk.mono _ _ _ _ _ | exact impl_Step.mono _ _ _ _ _ | exact LeO.refl _ | exact LeO.none _ | refine LeO.ite ?_ ?_ | refine LeO.bind ?_ (fun _ => ?_))
set_option maxHeartbeats 16000000 in
set_option maxRecDepth 100000 in
theorem impl_Advance.callsN (k : Nat) (a0_0 a0_1 : Int) (A0_2 : Option Addr) (c0_2 : Nat) (l0_2 : List Int) (A1 : Option Addr) (c1 : Nat) (l1 r : List S37) (w : World) (hr0_2 : Kd.C (Kd.int .i64) w A0_2 l0_2.length l0_2) (hc0_2 : l0_2.length ≤ c0_2) (hr1 : Kd.C k37 w A1 l1.length l1) (hc1 : l1.length ≤ c1) (ho : impl_copyCrew.f l1 = some r) (hk : impl_CrewOk.f k a0_0 a0_1 l0_2 l1 = some false) :
  Calls Try.prog 44 #[.agg #[.int .i64 a0_0, .int .i64 a0_1, .slice A0_2 l0_2.length c0_2], .slice A1 l1.length c1] w fun e w' => ∃ v0_ : Value, e = .returned v0_ ∧ Kd.R k37 37 w' w.heap.size (fun _ => True) v0_ r ∧ Below w.heap.size w w' := by
 have HO := aM ho
 have HK := aM hk
 clear ho hk
 have hu43 := Try.underlying43
 have hu37 := Try.underlying37
 have hu26 := Try.underlying26
 have hu24 := Try.underlying24
 have HF := aM hr0_2
 have HCF := aM hc0_2
 have HR := aM hr1
 have HCR := aM hc1
 clear hr0_2 hc0_2 hr1 hc1
 have HB := aM (Below.refl w.heap.size w)
 go_enter Try.func44, Try.ntmps44
 go_wp2_with (first
  | ((with_reducible refine gate_dst (N := 2) rfl ?_); refine box_event rfl (N := 2) rfl (cs := #[.int .i64 a0_0, .int .i64 a0_1, .slice A0_2 l0_2.length c0_2]) (t := 43) ?hr ?_; (case hr => exact qz7); intro b2 hg w1 hbx hb; have BK2 := aM hbx; replace HB := aM (below_step HB.out hb); clear hb hbx hg; have z0 := c3_0 BK2.out; have z1 := c3_1 BK2.out; have z2 := c3_2 BK2.out)
  | (go_at_call 86; (with_reducible refine (impl_copyCrew.calls _ _ l1 r _ (Kd.C_below HR.out HB.out) HCR.out HO.out).mono ?_); rintro e w2 ⟨vo, rfl, ho, hb⟩; have HOU := aM (Kd.R_lower ho (below_size HB.out)); obtain ⟨Ao, co, rfl⟩ := Kd.R_slice ho; replace BK2 := aM (blk_below BK2.out hb); replace HB := aM (below_step HB.out hb); clear hb ho; replace z0 := c3_0 BK2.out; replace z1 := c3_1 BK2.out; replace z2 := c3_2 BK2.out)
  | (go_at_call 45; (with_reducible refine (impl_CrewOk.calls k a0_0 a0_1 _ _ l0_2 _ _ l1 false _ (Kd.C_below HF.out HB.out) HCF.out (Kd.C_below HR.out HB.out) HCR.out HK.out).mono ?_); rintro e w3 ⟨rfl, hb⟩; replace BK2 := aM (blk_below BK2.out hb); replace HOU := aM (Kd.R_below HOU.out hb); replace HB := aM (below_step HB.out hb); clear hb; replace z0 := c3_0 BK2.out; replace z1 := c3_1 BK2.out; replace z2 := c3_2 BK2.out))
 go_ret
 exact ⟨_, rfl, HOU.out, HB.out⟩
set_option maxHeartbeats 16000000 in
set_option maxRecDepth 100000 in
theorem impl_Advance.callsM (k : Nat) (a0_0 a0_1 : Int) (A0_2 : Option Addr) (c0_2 : Nat) (l0_2 : List Int) (A1 : Option Addr) (c1 : Nat) (l1 r : List S37) (w : World) (hr0_2 : Kd.C (Kd.int .i64) w A0_2 l0_2.length l0_2) (hc0_2 : l0_2.length ≤ c0_2) (hr1 : Kd.C k37 w A1 l1.length l1) (hc1 : l1.length ≤ c1) (out : List S37) (ho : impl_copyCrew.f l1 = some out) (hk : impl_CrewOk.f k a0_0 a0_1 l0_2 l1 = some true) (nx : List Int) (hs : impl_Step.f k a0_0 a0_1 l0_2 l1 = some nx) (h20 : nx.length ≤ 20) (h : impl_Advance.l0 k out nx 0 = some r) :
  Calls Try.prog 44 #[.agg #[.int .i64 a0_0, .int .i64 a0_1, .slice A0_2 l0_2.length c0_2], .slice A1 l1.length c1] w fun e w' => ∃ v0_ : Value, e = .returned v0_ ∧ Kd.R k37 37 w' w.heap.size (fun _ => True) v0_ r ∧ Below w.heap.size w w' := by
 have HS := aM hs
 have H20 := aM h20
 have H' := aM h
 clear hs h20 h
 have HO := aM ho
 have HK := aM hk
 clear ho hk
 have hu43 := Try.underlying43
 have hu37 := Try.underlying37
 have hu26 := Try.underlying26
 have hu24 := Try.underlying24
 have HF := aM hr0_2
 have HCF := aM hc0_2
 have HR := aM hr1
 have HCR := aM hc1
 clear hr0_2 hc0_2 hr1 hc1
 have HB := aM (Below.refl w.heap.size w)
 go_enter Try.func44, Try.ntmps44
 go_wp2_with (first
  | ((with_reducible refine gate_dst (N := 2) rfl ?_); refine box_event rfl (N := 2) rfl (cs := #[.int .i64 a0_0, .int .i64 a0_1, .slice A0_2 l0_2.length c0_2]) (t := 43) ?hr ?_; (case hr => exact qz7); intro b2 hg w1 hbx hb; have BK2 := aM hbx; replace HB := aM (below_step HB.out hb); clear hb hbx hg; have z0 := c3_0 BK2.out; have z1 := c3_1 BK2.out; have z2 := c3_2 BK2.out)
  | (go_at_call 86; (with_reducible refine (impl_copyCrew.calls _ _ l1 out _ (Kd.C_below HR.out HB.out) HCR.out HO.out).mono ?_); rintro e w2 ⟨vo, rfl, ho, hb⟩; have HOU := aM (Kd.R_lower ho (below_size HB.out)); obtain ⟨Ao, co, rfl⟩ := Kd.R_slice ho; replace BK2 := aM (blk_below BK2.out hb); replace HB := aM (below_step HB.out hb); clear hb ho; replace z0 := c3_0 BK2.out; replace z1 := c3_1 BK2.out; replace z2 := c3_2 BK2.out)
  | (go_at_call 45; (with_reducible refine (impl_CrewOk.calls k a0_0 a0_1 _ _ l0_2 _ _ l1 true _ (Kd.C_below HF.out HB.out) HCF.out (Kd.C_below HR.out HB.out) HCR.out HK.out).mono ?_); rintro e w3 ⟨rfl, hb⟩; replace BK2 := aM (blk_below BK2.out hb); replace HOU := aM (Kd.R_below HOU.out hb); replace HB := aM (below_step HB.out hb); clear hb; replace z0 := c3_0 BK2.out; replace z1 := c3_1 BK2.out; replace z2 := c3_2 BK2.out)
  | (go_at_call 42; (with_reducible refine (impl_Step.calls k a0_0 a0_1 _ _ l0_2 _ _ l1 nx _ (Kd.C_below HF.out HB.out) HCF.out (Kd.C_below HR.out HB.out) HCR.out HS.out).mono ?_); rintro e w4 ⟨vn, rfl, hn, hb⟩; have HN := aM (Kd.R_lower hn (below_size HB.out)); obtain ⟨An, cn, rfl⟩ := Kd.R_slice hn; replace HOU := aM (Kd.R_below HOU.out hb); replace HB := aM (below_step HB.out hb); clear hb hn z0 z1 z2))
 obtain ⟨n, hn⟩ : ∃ n : Nat, n = out.length := ⟨_, rfl⟩
 rw [← hn] at HOU ⊢
 clear hn
 go_loopg [20] k (fun kq v20 wl => ∃ (xs : List S37) (i : Int), v20 = .int .i64 i ∧ Aside0 (impl_Advance.l0 kq xs nx i = some r) ∧ Aside0 (kq ≤ k) ∧ Aside0 (Kd.R k37 37 wl w.heap.size (fun _ => True) (.slice Ao n co) xs) ∧ Aside0 (Kd.R (Kd.int .i64) 3 wl w.heap.size (fun _ => True) (.slice An nx.length cn) nx) ∧ Aside0 (Below w.heap.size w wl))
 case atStart => exact ⟨out, 0, rfl, H', ⟨Nat.le_refl _⟩, HOU, HN, HB⟩
 case round =>
 clear H' HOU HN HB BK2
 obtain ⟨xs, i, rfl, HA, HKQ, HX, HN, HB⟩ := hrel
 cases gk with
 | zero => exact absurd HA.out (by simp [impl_Advance.l0])
 | succ k1 =>
 have H_ := HA.out
 clear HA
 simp only [impl_Advance.l0] at H_
 by_cases e1 : i < (nx.length : Int)
 case neg =>
  rw [if_neg e1] at H_
  obtain rfl := Option.some.inj H_
  have d1 : decide (i < (nx.length : Int)) = false := decide_eq_false e1
  go_wp2
  go_ret
  exact ⟨_, rfl, HX.out, HB.out⟩
 rw [if_pos e1] at H_
 have d1 : decide (i < (nx.length : Int)) = true := decide_eq_true e1
 by_cases e2 : 0 ≤ i
 case neg => rw [if_neg e2] at H_; cases H_
 rw [if_pos e2] at H_
 by_cases e3_ : i < (xs.length : Int)
 case neg => rw [if_neg e3_] at H_; cases H_
 rw [if_pos e3_] at H_
 have ew : wrap64 (i + 1) = i + 1 := by have := H20.out; unfold wrap64; omega
 rw [ew] at H_
 clear ew
 have i20 : i < 20 := by have := H20.out; omega
 have hnx := (Kd.R_reads' HX.out).1
 obtain ⟨g, cap, eg, hgb, _, gc, hgc⟩ := Kd.R_form HX.out (by omega)
 injection eg with ea_ en_ ec_
 subst ea_
 subst ec_
 have e3 : i < (n : Int) := by omega
 have EL := aM (show i.toNat < xs.length by omega)
 have GB := aM hgb
 have GC := aM hgc
 clear en_ hnx e3_ hgb hgc
 obtain ⟨adn, en, xn⟩ := Kd.at_int (Kd.R_reads' HN.out).2.2 i e2 e1
 subst en
 obtain ⟨v, hv⟩ : ∃ v : Int, v = rd nx i := ⟨_, rfl⟩
 rw [← hv] at xn H_
 clear hv
 obtain ⟨x0, x1, x2, x3, x4, f1, f4⟩ := k37_at HX.out i e2 e3
 clear x0 x2 x3 x4 f4
 go_upto_region 9 with (fail)
 have HX1 := aM (k37_f1 HX.out i e2 e3 v)
 have HN1 := aM (Kd.R_set HN.out GC.out (by decide) (i.toNat * 5 + 1) (.int .i64 v))
 have GC1 := aM (blk_set GC.out (i.toNat * 5 + 1) (.int .i64 v))
 have HB1 := aM (below_set (g := g) (j := i.toNat * 5 + 1) (v := .int .i64 v) HB.out GB.out)
 generalize wr.setCell ⟨g, i.toNat * 5 + 1, none⟩ (.int .i64 v) = w5 at HX1 HN1 GC1 HB1 ⊢
 clear HX HN GC HB x1 f1 xn
 obtain ⟨y, hy⟩ : ∃ y : S37, y = { rd_T37 xs i with f1 := v } := ⟨_, rfl⟩
 rw [← hy] at HX1
 have YY := aM hy
 clear hy
 have X1 := k37_at HX1.out i e2 e3
 rw [rd_set37 EL.out] at X1
 obtain ⟨x0, x1, x2, x3, x4, f1, f4⟩ := X1
 clear x0 x1 x2 x3 f1
 go_upto_region 10 with (fail)
 obtain ⟨m, hm⟩ : ∃ m : Int, m = min (wrap64 (y.f4 + 1)) 1000000 := ⟨_, rfl⟩
 (try rw [min_if37 (wrap64 (y.f4 + 1))])
 rw [← hm]
 have HX2 := aM (k37_f4s HX1.out e2 e3 m)
 have HN2 := aM (Kd.R_set HN1.out GC1.out (by decide) (i.toNat * 5 + 4) (.int .i64 m))
 have GC2 := aM (blk_set GC1.out (i.toNat * 5 + 4) (.int .i64 m))
 have HB2 := aM (below_set (g := g) (j := i.toNat * 5 + 4) (v := .int .i64 m) HB1.out GB.out)
 generalize w5.setCell ⟨g, i.toNat * 5 + 4, none⟩ (.int .i64 m) = w6 at HX2 HN2 GC2 HB2 ⊢
 clear HX1 HN1 GC1 HB1 x4 f4
 obtain ⟨z, hz⟩ : ∃ z : S37, z = { y with f4 := m } := ⟨_, rfl⟩
 rw [← hz] at HX2
 have X2 := k37_at HX2.out i e2 e3
 rw [rd_set37 EL.out] at X2
 obtain ⟨x0, x1, x2, x3, x4, f1, f4⟩ := X2
 clear f1
 have ZZ := aM (show z = { rd_T37 xs i with f1 := v, f4 := min (wrap64 ((rd_T37 xs i).f4 + 1)) 1000000 } by rw [hz, hm, YY.out])
 clear hz hm YY
 by_cases e5 : (rd_T37 xs i).f2 = -1 ∨ v = (rd_T37 xs i).f2
 {
 have HRS := aM (show impl_rests.f z.f0 z.f1 z.f2 z.f3 z.f4 = some true by
  rw [ZZ.out]
  unfold impl_rests.f
  split
  next => rfl
  next e6 => simp [e5.resolve_left e6])
 have ON := aM (show impl_Advance.one (rd_T37 xs i) v = { z with f4 := 0 } by rw [ZZ.out]; unfold impl_Advance.one; rw [if_pos e5])
 have H' := aM H_
 clear H_ e5
 go_wp2_with (go_at_call 87; (with_reducible refine (impl_rests.calls _ _ _ _ _ true _ HRS.out).mono ?_); rintro e w7 ⟨rfl, hb⟩; replace HX2 := aM (Kd.R_below HX2.out hb); replace HN2 := aM (Kd.R_below HN2.out hb); replace GC2 := aM (blk_below GC2.out hb); replace HB2 := aM (below_step HB2.out hb); clear hb x0 x1 x2 x3 x4 f4; have X3 := k37_at HX2.out i e2 e3; rw [rd_set37 EL.out] at X3; obtain ⟨x0, x1, x2, x3, x4, f1, f4⟩ := X3; clear x0 x1 x2 x3 f1)
 go_roundg k1
 case measure => have := HKQ.out; omega
 case rel => exact ⟨_, i + 1, rfl, ⟨by rw [ON.out] at H'; exact H'.out⟩, ⟨by have := HKQ.out; omega⟩, ⟨k37_f4s HX2.out e2 e3 0⟩, ⟨Kd.R_set HN2.out GC2.out (by decide) _ _⟩, ⟨below_set HB2.out GB.out⟩⟩
 }
 {
 have HRS := aM (show impl_rests.f z.f0 z.f1 z.f2 z.f3 z.f4 = some false by
  rw [ZZ.out]
  unfold impl_rests.f
  rw [if_neg (fun h => e5 (Or.inl h))]
  simp only [Option.some.injEq, beq_eq_false_iff_ne, ne_eq]
  exact fun h => e5 (Or.inr h))
 have ON := aM (show impl_Advance.one (rd_T37 xs i) v = z by rw [ZZ.out]; unfold impl_Advance.one; rw [if_neg e5])
 have H' := aM H_
 clear H_ e5
 go_wp2_with (go_at_call 87; (with_reducible refine (impl_rests.calls _ _ _ _ _ false _ HRS.out).mono ?_); rintro e w7 ⟨rfl, hb⟩; replace HX2 := aM (Kd.R_below HX2.out hb); replace HN2 := aM (Kd.R_below HN2.out hb); replace HB2 := aM (below_step HB2.out hb); clear hb x0 x1 x2 x3 x4 f4)
 go_roundg k1
 case measure => have := HKQ.out; omega
 case rel => exact ⟨_, i + 1, rfl, ⟨by rw [ON.out] at H'; exact H'.out⟩, ⟨by have := HKQ.out; omega⟩, HX2, HN2, HB2⟩
 }
theorem impl_Advance.calls (k : Nat) (a0_0 a0_1 : Int) (A0_2 : Option Addr) (c0_2 : Nat) (l0_2 : List Int) (A1 : Option Addr) (c1 : Nat) (l1 r : List S37) (w : World) (hr0_2 : Kd.C (Kd.int .i64) w A0_2 l0_2.length l0_2) (hc0_2 : l0_2.length ≤ c0_2) (hr1 : Kd.C k37 w A1 l1.length l1) (hc1 : l1.length ≤ c1) (h : impl_Advance.f k a0_0 a0_1 l0_2 l1 = some r) :
  Calls Try.prog 44 #[.agg #[.int .i64 a0_0, .int .i64 a0_1, .slice A0_2 l0_2.length c0_2], .slice A1 l1.length c1] w fun e w' => ∃ v0_ : Value, e = .returned v0_ ∧ Kd.R k37 37 w' w.heap.size (fun _ => True) v0_ r ∧ Below w.heap.size w w' := by
 unfold impl_Advance.f at h
 obtain ⟨out, ho, h⟩ := Option.bind_eq_some_iff.mp h
 obtain ⟨b, hk, h⟩ := Option.bind_eq_some_iff.mp h
 cases b with
 | false =>
  rw [if_neg (by decide)] at h
  obtain rfl := Option.some.inj h
  exact impl_Advance.callsN k a0_0 a0_1 A0_2 c0_2 l0_2 A1 c1 l1 _ w hr0_2 hc0_2 hr1 hc1 ho hk
 | true =>
  rw [if_pos rfl] at h
  obtain ⟨nx, hs, h⟩ := Option.bind_eq_some_iff.mp h
  by_cases h20 : nx.length ≤ 20
  {
  rw [if_pos h20] at h
  exact impl_Advance.callsM k a0_0 a0_1 A0_2 c0_2 l0_2 A1 c1 l1 r w hr0_2 hc0_2 hr1 hc1 out ho hk nx hs h20 h
  }
  {
  rw [if_neg h20] at h; cases h
  }
/-! ### impl_Drive: function 47 -/
mutual
def impl_Drive.l0 : Nat → Int → List (S37) → List Bool → List (S37) → Int → Int → Int → Int → List Int → Option ((List (S37)) × List Bool)
 | 0, _, _, _, _, _, _, _, _, _ => none
 | k + 1, x2, x8, x9, x17, x18, x19, x190000, x190001, x190002 => if x19 < x18 then (if 0 ≤ x19 then (if x19 < (x17.length : Int) then ((impl_rests.f ((rd_T37 x17 x19).f0) ((rd_T37 x17 x19).f1) ((rd_T37 x17 x19).f2) ((rd_T37 x17 x19).f3) ((rd_T37 x17 x19).f4)).bind fun t195 => (if x9.length < 140737488355328 then (impl_Drive.l0 k x2 x8 (x9 ++ [t195]) x17 x18 (wrap64 (x19 + 1)) x190000 x190001 x190002) else (none))) else (none)) else (none)) else (impl_Drive.l1 k x2 x8 x9 0 x190000 x190001 x190002)
def impl_Drive.l1 : Nat → Int → List (S37) → List Bool → Int → Int → Int → List Int → Option ((List (S37)) × List Bool)
 | 0, _, _, _, _, _, _, _ => none
 | k + 1, x2, x8, x9, x12, x190000, x190001, x190002 => if x12 < x2 then (impl_Drive.j2 k x2 x8 x9 x12 (decide (x2 ≤ 1000)) x190000 x190001 x190002) else (impl_Drive.j2 k x2 x8 x9 x12 false x190000 x190001 x190002)
def impl_Drive.j2 : Nat → Int → List (S37) → List Bool → Int → Bool → Int → Int → List Int → Option ((List (S37)) × List Bool)
 | 0, _, _, _, _, _, _, _, _ => none
 | k + 1, x2, x8, x9, x12, x35, x190000, x190001, x190002 => if x35 = true then ((impl_Advance.f k x190000 x190001 x190002 x8).bind fun t199 => (impl_Drive.l2 k x2 t199 x9 x12 t199 (t199.length : Int) 0 x190000 x190001 x190002)) else (some (x8, x9))
def impl_Drive.l2 : Nat → Int → List (S37) → List Bool → Int → List (S37) → Int → Int → Int → Int → List Int → Option ((List (S37)) × List Bool)
 | 0, _, _, _, _, _, _, _, _, _, _ => none
 | k + 1, x2, x8, x9, x12, x41, x42, x43, x190000, x190001, x190002 => if x43 < x42 then (if 0 ≤ x43 then (if x43 < (x41.length : Int) then (if x43 < (x9.length : Int) then (if rdOf false x9 x43 = true then (impl_Drive.l2 k x2 x8 (x9.set (x43 : Int).toNat true) x12 x41 x42 (wrap64 (x43 + 1)) x190000 x190001 x190002) else ((impl_rests.f ((rd_T37 x41 x43).f0) ((rd_T37 x41 x43).f1) ((rd_T37 x41 x43).f2) ((rd_T37 x41 x43).f3) ((rd_T37 x41 x43).f4)).bind fun t206 => (impl_Drive.l2 k x2 x8 (x9.set (x43 : Int).toNat t206) x12 x41 x42 (wrap64 (x43 + 1)) x190000 x190001 x190002))) else (none)) else (none)) else (none)) else (impl_Drive.l1 k x2 x8 x9 (wrap64 (x12 + 1)) x190000 x190001 x190002)
end
def impl_Drive.f (k : Nat) (a0_0 : Int) (a0_1 : Int) (l0_2 : List Int) (l1 : List (S37)) (a2 : Int) : Option ((List (S37)) × List Bool) := (impl_copyCrew.f l1).bind fun t190 => (impl_Drive.l0 k a2 t190 ([] : List Bool) l1 (l1.length : Int) 0 a0_0 a0_1 l0_2)
theorem impl_Drive.mono_l : ∀ k, (∀ y0 y1 y2 y3 y4 y5 y6 y7 y8, LeO (impl_Drive.l0 k y0 y1 y2 y3 y4 y5 y6 y7 y8) (impl_Drive.l0 (k + 1) y0 y1 y2 y3 y4 y5 y6 y7 y8)) ∧ (∀ y0 y1 y2 y3 y4 y5 y6, LeO (impl_Drive.l1 k y0 y1 y2 y3 y4 y5 y6) (impl_Drive.l1 (k + 1) y0 y1 y2 y3 y4 y5 y6)) ∧ (∀ y0 y1 y2 y3 y4 y5 y6 y7, LeO (impl_Drive.j2 k y0 y1 y2 y3 y4 y5 y6 y7) (impl_Drive.j2 (k + 1) y0 y1 y2 y3 y4 y5 y6 y7)) ∧ (∀ y0 y1 y2 y3 y4 y5 y6 y7 y8 y9, LeO (impl_Drive.l2 k y0 y1 y2 y3 y4 y5 y6 y7 y8 y9) (impl_Drive.l2 (k + 1) y0 y1 y2 y3 y4 y5 y6 y7 y8 y9))
 | 0 => ⟨fun _ _ _ _ _ _ _ _ _ r h => by simp [impl_Drive.l0] at h, fun _ _ _ _ _ _ _ r h => by simp [impl_Drive.l1] at h, fun _ _ _ _ _ _ _ _ r h => by simp [impl_Drive.j2] at h, fun _ _ _ _ _ _ _ _ _ _ r h => by simp [impl_Drive.l2] at h⟩
 | k + 1 => by
  obtain ⟨ih0, ih1, ih2, ih3⟩ := impl_Drive.mono_l k
  refine ⟨?_, ?_, ?_, ?_⟩
  {
  intro y0 y1 y2 y3 y4 y5 y6 y7 y8
  unfold impl_Drive.l0
  have j0 := @impl_Advance.mono
  exact qL
  }
  {
  intro y0 y1 y2 y3 y4 y5 y6
  unfold impl_Drive.l1
  have j0 := @impl_Advance.mono
  exact qL
  }
  {
  intro y0 y1 y2 y3 y4 y5 y6 y7
  unfold impl_Drive.j2
  have j0 := @impl_Advance.mono
  exact qL
  }
  {
  intro y0 y1 y2 y3 y4 y5 y6 y7 y8 y9
  unfold impl_Drive.l2
  have j0 := @impl_Advance.mono
  exact qL
  }
theorem impl_Drive.mono : ∀ a0 a1 a2 a3 a4 k, LeO (impl_Drive.f k a0 a1 a2 a3 a4) (impl_Drive.f (k + 1) a0 a1 a2 a3 a4) := by
 intro a0 a1 a2 a3 a4 k
 obtain ⟨ih0, ih1, ih2, ih3⟩ := impl_Drive.mono_l k
 unfold impl_Drive.f
 have j0 := @impl_Advance.mono
 exact qL
set_option maxHeartbeats 8000000 in
set_option maxRecDepth 100000 in
theorem impl_Drive.calls (k : Nat) (a0_0 : Int) (a0_1 : Int) (A0_2 : Option Addr) (c0_2 : Nat) (l0_2 : List Int) (A1 : Option Addr) (c1 : Nat) (l1 : List (S37)) (a2 : Int) (r1 : List (S37)) (r2 : List Bool) (w : World) (hr0_2 : Kd.C (Kd.int .i64) w A0_2 l0_2.length l0_2) (hc0_2 : l0_2.length ≤ c0_2) (hr1 : Kd.C k37 w A1 l1.length l1) (hc1 : l1.length ≤ c1) (h : impl_Drive.f k a0_0 a0_1 l0_2 l1 a2 = some (r1, r2)) :
  Calls Try.prog 47 #[.agg #[.int .i64 a0_0, .int .i64 a0_1, .slice A0_2 l0_2.length c0_2], .slice A1 l1.length c1, .int .i64 a2] w fun e w' => ∃ v0_ v1_ : Value, e = .returned (.tuple #[v0_, v1_]) ∧ Kd.R k37 37 w' w.heap.size (fun _ => True) v0_ r1 ∧ Kd.R Kd.bool 4 w' w.heap.size (fun _ => True) v1_ r2 ∧ Below w.heap.size w w' := by
 have hu43 := Try.underlying43
 have hu37 := Try.underlying37
 have HR0_2 := aM hr0_2
 have HC0_2 := aM hc0_2
 clear hr0_2 hc0_2
 have HR1 := aM hr1
 have HC1 := aM hc1
 clear hr1 hc1
 have HB := aM (Below.refl w.heap.size w)
 unfold impl_Drive.f at h
 have H := h
 clear h
 replace H := Option.bind_eq_some_iff.mp H
 obtain ⟨t190, A40, H⟩ := H
 have A4 := aM A40
 clear A40
 have H' := aM H
 clear H
 go_enter Try.func47, Try.ntmps47
 go_wp2_with (first | ((with_reducible refine gate_dst (N := 3) rfl ?_); refine bx_ 3 #[.int .i64 a0_0, .int .i64 a0_1, .slice A0_2 l0_2.length c0_2] 43 ?_; intro gb189 hg w5 hbox hb; have BK189 := aM (hbox); have GW189 := aM (bz_ w hg qz1); have GE189 := GW189; replace HB := bS_ hb; clear hb hbox hg) | ((with_reducible refine gate_callee (f := 86) rfl ?_); refine goesL_ (some 16) rfl rfl Try.func86 (by kernel_rfl) rfl #[.slice A1 l1.length c1] rfl qz2 ?_; (with_reducible refine (impl_copyCrew.calls _ _ l1 t190 _ ?side1 ?side2 A4.out).mono ?_); (case side1 => repeat (first | exact (Kd.C_below HR1.out HB.out) | (with_reducible refine Kd.C_alloc ?_ _) | (with_reducible refine Kd.C_drewN ?_ _) | (with_reducible refine Kd.C_drew ?_))); (case side2 => exact HC1.out); rintro e w6 ⟨v191, rfl, ho0, hb⟩; refine ⟨_, rfl, ?_⟩; have HO192 := aM (Kd.R_lower ho0 (below_size qz1)); replace BK189 := bB_ BK189 hb; replace HB := bS_ hb; (try clear hb ho0)))
 go_loopg [9, 19] k (fun kq v9 v19 w' => ∃ (x9_1 : List Bool) (x19_1 : Int), v19 = .int .i64 x19_1 ∧ Aside0 (impl_Drive.l0 kq a2 t190 x9_1 l1 (l1.length : Int) x19_1 a0_0 a0_1 l0_2 = some (r1, r2)) ∧ Aside0 (kq ≤ k) ∧ Aside0 (Kd.R k37 37 w' w.heap.size (fun _ => True) v191 t190) ∧ Aside0 (Kd.R Kd.bool 4 w' w.heap.size (fun _ => True) v9 x9_1) ∧ Aside0 (w'.heap[gb189]? = some (.cells #[.int .i64 a0_0, .int .i64 a0_1, (.slice A0_2 l0_2.length c0_2)] 43 (0, 0))) ∧ Aside0 (Below w.heap.size w w'))
 case atStart => exact ⟨(([] : List Bool)), (0), qz6, H', ⟨Nat.le_refl _⟩, ⟨rr_ HO192.out⟩, ⟨by first | exact Kd.R_nil _ _ _ _ _ | exact Kd.N_nil _ _ _ _ _ | exact Kd.V_nil _ _ _ _ _ | exact Kd.Q_nil _ _ _ _ _ | exact Kd.S_nil _ _ _ _ _⟩, ⟨bk_ BK189.out⟩, ⟨qz1⟩⟩
 case round =>
 clear H'
 try clear c1
 obtain ⟨x9_1, x19_1, rfl, HA, HK1, HO_8, HO_9, BK189, HB⟩ := hrel
 cases gk with
 | zero => exact absurd HA.out (by simp [impl_Drive.l0])
 | succ k1 =>
 have H := HA.out
 clear HA
 simp only [impl_Drive.l0] at H
 replace H := iE_ H
 rcases H with ⟨c7b0, H⟩ | ⟨c7b0, H⟩
 {
 replace H := iD_ H
 obtain ⟨c8b0, H⟩ := H
 replace H := iD_ H
 obtain ⟨c9b0, H⟩ := H
 replace H := Option.bind_eq_some_iff.mp H
 obtain ⟨t195, A100, H⟩ := H
 have A10 := aM A100
 clear A100
 replace H := iN_ H
 obtain ⟨c11, H⟩ := H
 have LMc11 := aM c11
 clear c11
 obtain ⟨y196, hy196⟩ : ∃ y_ : List Bool, y_ = (x9_1 ++ [t195]) := ⟨_, rfl⟩
 replace H : (impl_Drive.l0 k1 a2 t190 y196 l1 (l1.length : Int) (wrap64 (x19_1 + 1)) a0_0 a0_1 l0_2) = some (r1, r2) := by first | (rw [hy196]; exact H) | exact H
 have Ny196 := aM hy196
 clear hy196
 have H' := aM H
 clear H
 have p193 : (0 ≤ (x19_1 : Int)) = True := et_
 have q193 : (x19_1 < (l1.length : Int)) = True := et_
 obtain ⟨ad193, e193, hx193_0, hx193_1, hx193_2, hx193_3, hx193_4⟩ := at_T37 HR1.out x19_1 dt_ dt_
 cases e193
 replace hx193_0 := cB_ hx193_0
 replace hx193_1 := cB_ hx193_1
 replace hx193_2 := cB_ hx193_2
 replace hx193_3 := cB_ hx193_3
 replace hx193_4 := cB_ hx193_4
 go_wp2_with (first | ((with_reducible refine gate_dst (N := 11) rfl ?_); refine bx_ 11 #[.int .i64 0, .int .i64 0, .int .i64 0, .bool false, .int .i64 0] 37 ?_; intro gb194 hg w12 hbox hb; replace HO_8 := aM (Kd.R_below (Kd.R_elderB (rr_ HO_8.out) gb194 (Nat.le_of_eq hg.symm)) hb); replace HO_9 := aM (Kd.R_below (rr_ HO_9.out) hb); have BK194 := aM (hbox); have GW194 := aM (bz_ w hg qz1); have GE194 := GW194; replace HB := bS_ hb; obtain ⟨NB189_194, NB194_189⟩ := nb_ hg (bk_ BK189.out); replace BK189 := bB_ BK189 hb; clear hb hbox hg; have hnb13 := NB194_189.out; have hnc13 := NB189_194.out; obtain ⟨hcz14_0, hcz14_1, hcz14_2, hcz14_3, hcz14_4, hfz14_0, hfz14_1, hfz14_2, hfz14_3, hfz14_4⟩ := b10_ BK194.out) | ((with_reducible refine gate_callee (f := 87) rfl ?_); refine goesL_ (some 25) rfl rfl Try.func87 (by kernel_rfl) rfl #[.agg #[.int .i64 ((rd_T37 l1 x19_1).f0), .int .i64 ((rd_T37 l1 x19_1).f1), .int .i64 ((rd_T37 l1 x19_1).f2), .bool ((rd_T37 l1 x19_1).f3), .int .i64 ((rd_T37 l1 x19_1).f4)]] rfl qz2 ?_; (with_reducible refine (impl_rests.calls ((rd_T37 l1 x19_1).f0) ((rd_T37 l1 x19_1).f1) ((rd_T37 l1 x19_1).f2) ((rd_T37 l1 x19_1).f3) ((rd_T37 l1 x19_1).f4) t195 _ A10.out).mono ?_); rintro e w15 ⟨rfl, hb⟩; refine ⟨_, rfl, ?_⟩; replace HO_8 := aM (Kd.R_below (by (with_reducible repeat (first | apply Kd.R_alloc | apply Kd.R_drewN | apply Kd.R_drew)); exact (Kd.R_mono (Kd.R_far (p := ⟨gb194, 4, none⟩) (Kd.R_far (p := ⟨gb194, 3, none⟩) (Kd.R_far (p := ⟨gb194, 2, none⟩) (Kd.R_far (p := ⟨gb194, 1, none⟩) (Kd.R_far (p := ⟨gb194, 0, none⟩) (Kd.R_mono HO_8.out (fun k_ hk => (⟨hk, hk.2⟩ : _ ∧ k_ ≠ gb194))) (fun _ hk => hk.2) (.int .i64 ((rd_T37 l1 x19_1).f0))) (fun _ hk => hk.2) (.int .i64 ((rd_T37 l1 x19_1).f1))) (fun _ hk => hk.2) (.int .i64 ((rd_T37 l1 x19_1).f2))) (fun _ hk => hk.2) (.bool ((rd_T37 l1 x19_1).f3))) (fun _ hk => hk.2) (.int .i64 ((rd_T37 l1 x19_1).f4))) (fun _ h_ => h_.1))) hb); replace HO_9 := aM (Kd.R_below (by (with_reducible repeat (first | apply Kd.R_alloc | apply Kd.R_drewN | apply Kd.R_drew)); exact (Kd.R_mono (Kd.R_far (p := ⟨gb194, 4, none⟩) (Kd.R_far (p := ⟨gb194, 3, none⟩) (Kd.R_far (p := ⟨gb194, 2, none⟩) (Kd.R_far (p := ⟨gb194, 1, none⟩) (Kd.R_far (p := ⟨gb194, 0, none⟩) (Kd.R_types HO_9.out BK194.out (by decide)) (fun _ hk => hk.2) (.int .i64 ((rd_T37 l1 x19_1).f0))) (fun _ hk => hk.2) (.int .i64 ((rd_T37 l1 x19_1).f1))) (fun _ hk => hk.2) (.int .i64 ((rd_T37 l1 x19_1).f2))) (fun _ hk => hk.2) (.bool ((rd_T37 l1 x19_1).f3))) (fun _ hk => hk.2) (.int .i64 ((rd_T37 l1 x19_1).f4))) (fun _ h_ => h_.1))) hb); replace BK189 := aM (blk_below (g := gb189) (o := .cells #[.int .i64 a0_0, .int .i64 a0_1, .slice A0_2 l0_2.length c0_2] 43 (0, 0)) (bk2_ BK189.out) hb); replace BK194 := aM (blk_below (g := gb194) (o := .cells #[.int .i64 ((rd_T37 l1 x19_1).f0), .int .i64 ((rd_T37 l1 x19_1).f1), .int .i64 ((rd_T37 l1 x19_1).f2), .bool ((rd_T37 l1 x19_1).f3), .int .i64 ((rd_T37 l1 x19_1).f4)] 37 (0, 0)) (by (with_reducible repeat (first | refine blk_drewN ?_ _ | refine blk_drew ?_ | refine blk_alloc ?_ _)); refine blk_put (cs := #[.int .i64 ((rd_T37 l1 x19_1).f0), .int .i64 ((rd_T37 l1 x19_1).f1), .int .i64 ((rd_T37 l1 x19_1).f2), .bool ((rd_T37 l1 x19_1).f3), .int .i64 0]) ?_ 4 _ rfl; (with_reducible repeat (first | refine blk_drewN ?_ _ | refine blk_drew ?_ | refine blk_alloc ?_ _)); refine blk_put (cs := #[.int .i64 ((rd_T37 l1 x19_1).f0), .int .i64 ((rd_T37 l1 x19_1).f1), .int .i64 ((rd_T37 l1 x19_1).f2), .bool false, .int .i64 0]) ?_ 3 _ rfl; (with_reducible repeat (first | refine blk_drewN ?_ _ | refine blk_drew ?_ | refine blk_alloc ?_ _)); refine blk_put (cs := #[.int .i64 ((rd_T37 l1 x19_1).f0), .int .i64 ((rd_T37 l1 x19_1).f1), .int .i64 0, .bool false, .int .i64 0]) ?_ 2 _ rfl; (with_reducible repeat (first | refine blk_drewN ?_ _ | refine blk_drew ?_ | refine blk_alloc ?_ _)); refine blk_put (cs := #[.int .i64 ((rd_T37 l1 x19_1).f0), .int .i64 0, .int .i64 0, .bool false, .int .i64 0]) ?_ 1 _ rfl; (with_reducible repeat (first | refine blk_drewN ?_ _ | refine blk_drew ?_ | refine blk_alloc ?_ _)); refine blk_put (cs := #[.int .i64 0, .int .i64 0, .int .i64 0, .bool false, .int .i64 0]) ?_ 0 _ rfl; exact bk_ BK194.out) hb); replace HB := bS_ hb; (try clear hb)) | ((with_reducible refine gate_builtin (b := .append) (xs := #[.tmp 23, .tmp 26]) rfl ?_); at_builtin; refine Kd.R_append Kd.bool (w0 := w) w.heap.size rfl (.tmp 23) (.tmp 26) 65 4 (.bool false) 1 rfl Try.underlying65 info4 rfl (by decide) (by omega) u9 x9_1 t195 [.bool t195] (fun _ => True) (fun _ => False) rfl rfl ?aP (fun _ hk => hk.elim) ?aF ?aO ?aB ?aS ?aL ?_; (case aP => exact rfl); (case aB => exact qz1); (case aF => exact qz12); (case aO => exact (rr_ HO_9.out)); (case aS => exact qz19); (case aL => have := LMc11.out; omega); intro v197 w16 ho hb hg hat; rw [← Ny196.out] at ho; replace HO_8 := aM (Kd.R_over' (rr_ HO_8.out) (Kd.R_typed (rr_ HO_9.out)) (by decide) hg); replace BK189 := aM (blk_grown (bk_ BK189.out) hg (Kd.R_ne HO_9.out BK189.out (by decide))); replace BK194 := aM (blk_grown (bk_ BK194.out) hg (Kd.R_ne HO_9.out BK194.out (by decide))); replace HB := aM (hb); have HO198 := aM (ho); clear HO_9; clear ho hb hg hat))
 go_roundg k1
 case measure => have := HK1.out; omega
 case rel => exact ⟨(y196), (wrap64 (x19_1 + 1)), qz6, H', ⟨by have := HK1.out; omega⟩, ⟨by (with_reducible repeat (first | apply Kd.R_alloc | apply Kd.R_drewN | apply Kd.R_drew)); exact Kd.R_mono HO_8.out (fun _ hk => trivial)⟩, ⟨rm_ HO198.out⟩, ⟨bk_ BK189.out⟩, ⟨qz1⟩⟩
 }
 {
 have H' := aM H
 clear H
 go_wp2
 go_loopg [8, 12] k1 (fun kq v8 v12 w' => ∃ (x8_2 : List (S37)) (x9_2 : List Bool) (x12_2 : Int), v12 = .int .i64 x12_2 ∧ Aside0 (impl_Drive.l1 kq a2 x8_2 x9_2 x12_2 a0_0 a0_1 l0_2 = some (r1, r2)) ∧ Aside0 (kq ≤ k1) ∧ Aside0 (Kd.R k37 37 w' w.heap.size (fun _ => True) v8 x8_2) ∧ Aside0 (Kd.R Kd.bool 4 w' w.heap.size (fun _ => True) u9 x9_2) ∧ Aside0 (w'.heap[gb189]? = some (.cells #[.int .i64 a0_0, .int .i64 a0_1, (.slice A0_2 l0_2.length c0_2)] 43 (0, 0))) ∧ Aside0 (Below w.heap.size w w'))
 case atStart => exact ⟨(t190), (x9_1), (0), qz6, H', ⟨Nat.le_refl _⟩, ⟨rr_ HO_8.out⟩, ⟨rr_ HO_9.out⟩, ⟨bk_ BK189.out⟩, ⟨qz1⟩⟩
 case round =>
 clear H'
 try clear c1
 try clear c7
 try clear c7b0
 obtain ⟨x8_2, x9_2, x12_2, rfl, HA, HK2, HO_8, HO_9, BK189, HB⟩ := hrel
 cases gk with
 | zero => exact absurd HA.out (by simp [impl_Drive.l1])
 | succ k2 =>
 have H := HA.out
 clear HA
 simp only [impl_Drive.l1] at H
 have HC17 := aM H
 clear H
 go_upto_region 9 with (fail)
 go_cut [35] (fun v35 wc => ∃ (kq : Nat) (x35_16 : Bool), v35 = .bool x35_16 ∧ Aside0 (impl_Drive.j2 kq a2 x8_2 x9_2 x12_2 x35_16 a0_0 a0_1 l0_2 = some (r1, r2)) ∧ Aside0 (kq ≤ k2) ∧ Aside0 (Kd.R k37 37 wc w.heap.size (fun _ => True) u8 x8_2) ∧ Aside0 (Kd.R Kd.bool 4 wc w.heap.size (fun _ => True) u9 x9_2) ∧ Aside0 (wc.heap[gb189]? = some (.cells #[.int .i64 a0_0, .int .i64 a0_1, (.slice A0_2 l0_2.length c0_2)] 43 (0, 0))) ∧ Aside0 (Below w.heap.size w wc))
 case first =>
  have H := HC17.out
  clear HC17
  replace H := iE_ H
  rcases H with ⟨c18b0, H⟩ | ⟨c18b0, H⟩
  {
  (first | rw [c18b0] | (simp only [i64_w, i32_w]; rw [c18b0]) | rw [@decide_eq_true _ _ (of_decide_eq_true c18b0)] | rw [@decide_eq_true _ _ (of_decide_eq_true c18b1)] | skip)
  have H' := aM H
  clear H
  go_wp2
  go_meet
  case rel => exact ⟨_, (decide (a2 ≤ 1000)), qz6, H', ⟨by have := HK1.out; have := HK2.out; first | omega | exact Nat.le_refl _⟩, ⟨rm_ HO_8.out⟩, ⟨rm_ HO_9.out⟩, ⟨bk_ BK189.out⟩, ⟨qz1⟩⟩
  }
  {
  (first | rw [c18b0] | (simp only [i64_w, i32_w]; rw [c18b0]) | rw [@decide_eq_false _ _ (of_decide_eq_false c18b0)] | rw [@decide_eq_false _ _ (of_decide_eq_false c18b1)] | skip)
  have H' := aM H
  clear H
  go_wp2
  go_meet
  case rel => exact ⟨_, (false), qz6, H', ⟨by have := HK1.out; have := HK2.out; first | omega | exact Nat.le_refl _⟩, ⟨rm_ HO_8.out⟩, ⟨rm_ HO_9.out⟩, ⟨bk_ BK189.out⟩, ⟨qz1⟩⟩
  }
 case rest =>
 clear HC17
 try clear c1
 try clear c7
 try clear c7b0
 obtain ⟨kq, x35_16, rfl, HA, HJ16, HO_8, HO_9, BK189, HB⟩ := hcut
 cases kq with
 | zero => exact absurd HA.out (by simp [impl_Drive.j2])
 | succ kj16 =>
 have H := HA.out
 clear HA
 simp only [impl_Drive.j2] at H
 replace H := iB_ H
 rcases H with ⟨rfl, H⟩ | ⟨rfl, H⟩
 {
 replace H := Option.bind_eq_some_iff.mp H
 obtain ⟨t199, A200, H⟩ := H
 have A20 := aM A200
 clear A200
 have H' := aM H
 clear H
 obtain ⟨hcz21_0, hcz21_1, hcz21_2, hfz21_0, hfz21_1, hfz21_2⟩ := b6_ BK189.out
 obtain ⟨Ao22, co22, eo22⟩ := Kd.R_slice HO_8.out
 subst eo22
 go_wp2_with (first | ((with_reducible refine gate_callee (f := 44) rfl ?_); refine goesL_ (some 40) rfl rfl Try.func44 (by kernel_rfl) rfl #[.agg #[.int .i64 a0_0, .int .i64 a0_1, .slice A0_2 l0_2.length c0_2], .slice Ao22 x8_2.length co22] rfl qz2 ?_; (with_reducible refine (impl_Advance.calls kj16 a0_0 a0_1 _ _ l0_2 _ _ x8_2 t199 _ ?side1 ?side2 ?side3 ?side4 A20.out).mono ?_); (case side1 => exact qz5); (case side2 => exact qz14); (case side3 => repeat (first | exact (Kd.R_reads' HO_8.out).2.2 | (with_reducible refine Kd.C_alloc ?_ _) | (with_reducible refine Kd.C_drewN ?_ _) | (with_reducible refine Kd.C_drew ?_))); (case side4 => exact (Kd.R_reads' HO_8.out).2.1); rintro e w23 ⟨v200, rfl, ho0, hb⟩; refine ⟨_, rfl, ?_⟩; replace HO_9 := aM (Kd.R_below (rr_ HO_9.out) hb); have HO201 := aM (Kd.R_lower (Kd.R_new' ho0 (Kd.R_lt (rr_ HO_8.out))) (below_size qz1)); replace HO_8 := aM (Kd.R_elder' (rr_ HO_8.out) (Kd.R_base ho0) hb); replace BK189 := bB_ BK189 hb; replace HB := bS_ hb; (try clear hb ho0); obtain ⟨Ao24, co24, eo24⟩ := Kd.R_slice HO201.out; subst eo24))
 go_loopg [43] kj16 (fun kq v43 w' => ∃ (x9_4 : List Bool) (x43_4 : Int), v43 = .int .i64 x43_4 ∧ Aside0 (impl_Drive.l2 kq a2 t199 x9_4 x12_2 t199 (t199.length : Int) x43_4 a0_0 a0_1 l0_2 = some (r1, r2)) ∧ Aside0 (kq ≤ kj16) ∧ Aside0 (Kd.R k37 37 w' w.heap.size (fun _ => True) (.slice Ao24 t199.length co24) t199) ∧ Aside0 (Kd.R Kd.bool 4 w' w.heap.size (fun _ => True) u9 x9_4) ∧ Aside0 (Kd.R k37 37 w' w.heap.size (fun _ => True) (.slice Ao24 t199.length co24) t199) ∧ Aside0 (w'.heap[gb189]? = some (.cells #[.int .i64 a0_0, .int .i64 a0_1, (.slice A0_2 l0_2.length c0_2)] 43 (0, 0))) ∧ Aside0 (Below w.heap.size w w'))
 case atStart => exact ⟨(x9_2), (0), qz6, H', ⟨Nat.le_refl _⟩, ⟨by (with_reducible repeat (first | apply Kd.R_alloc | apply Kd.R_drewN | apply Kd.R_drew)); exact Kd.R_mono HO201.out (fun _ hk => trivial)⟩, ⟨rr_ HO_9.out⟩, ⟨by (with_reducible repeat (first | apply Kd.R_alloc | apply Kd.R_drewN | apply Kd.R_drew)); exact Kd.R_mono HO201.out (fun _ hk => trivial)⟩, ⟨bk_ BK189.out⟩, ⟨qz1⟩⟩
 case round =>
 clear H'
 try clear c1
 try clear c7
 try clear c7b0
 try clear c19
 try clear hcz21_0 hcz21_1 hcz21_2 hfz21_0 hfz21_1 hfz21_2
 obtain ⟨x9_4, x43_4, rfl, HA, HK4, HO_8, HO_9, HO_41, BK189, HB⟩ := hrel
 cases gk with
 | zero => exact absurd HA.out (by simp [impl_Drive.l2])
 | succ k4 =>
 have H := HA.out
 clear HA
 simp only [impl_Drive.l2] at H
 replace H := iE_ H
 rcases H with ⟨c25b0, H⟩ | ⟨c25b0, H⟩
 {
 replace H := iD_ H
 obtain ⟨c26b0, H⟩ := H
 replace H := iD_ H
 obtain ⟨c27b0, H⟩ := H
 replace H := iD_ H
 obtain ⟨c28b0, H⟩ := H
 obtain ⟨bq29, hbq29⟩ : ∃ b_ : Bool, b_ = (rdOf false x9_4 x43_4) := ⟨_, rfl⟩
 replace H : (if bq29 = true then (impl_Drive.l2 k4 a2 t199 (x9_4.set (x43_4 : Int).toNat true) x12_2 t199 (t199.length : Int) (wrap64 (x43_4 + 1)) a0_0 a0_1 l0_2) else ((impl_rests.f ((rd_T37 t199 x43_4).f0) ((rd_T37 t199 x43_4).f1) ((rd_T37 t199 x43_4).f2) ((rd_T37 t199 x43_4).f3) ((rd_T37 t199 x43_4).f4)).bind fun t206 => (impl_Drive.l2 k4 a2 t199 (x9_4.set (x43_4 : Int).toNat t206) x12_2 t199 (t199.length : Int) (wrap64 (x43_4 + 1)) a0_0 a0_1 l0_2))) = some (r1, r2) := by rw [← hbq29] at H; exact H
 have Nbq29 := aM hbq29
 clear hbq29
 replace H := iB_ H
 rcases H with ⟨rfl, H⟩ | ⟨rfl, H⟩
 {
 obtain ⟨y205, hy205⟩ : ∃ y_ : List Bool, y_ = (x9_4.set (x43_4 : Int).toNat true) := ⟨_, rfl⟩
 replace H : (impl_Drive.l2 k4 a2 t199 y205 x12_2 t199 (t199.length : Int) (wrap64 (x43_4 + 1)) a0_0 a0_1 l0_2) = some (r1, r2) := by first | (rw [hy205]; exact H) | exact H
 have Ny205 := aM hy205
 clear hy205
 have H' := aM H
 clear H
 have p202 : (0 ≤ (x43_4 : Int)) = True := et_
 have q202 : (x43_4 < (t199.length : Int)) = True := et_
 obtain ⟨ad202, e202, hx202_0, hx202_1, hx202_2, hx202_3, hx202_4⟩ := at_T37 (Kd.R_reads' HO_41.out).2.2 x43_4 dt_ dt_
 (try rw [← Nbq29.out] at hx202_3)
 cases e202
 go_wp2_with (first | ((with_reducible refine gate_dst (N := 14) rfl ?_); refine bx_ 14 #[.int .i64 0, .int .i64 0, .int .i64 0, .bool false, .int .i64 0] 37 ?_; intro gb203 hg w32 hbox hb; replace HO_8 := aM (Kd.R_below (Kd.R_elderB (rr_ HO_8.out) gb203 (Nat.le_of_eq hg.symm)) hb); replace HO_9 := aM (Kd.R_below (rr_ HO_9.out) hb); replace HO_41 := aM (Kd.R_below (Kd.R_elderB (rr_ HO_41.out) gb203 (Nat.le_of_eq hg.symm)) hb); have BK203 := aM (hbox); have GW203 := aM (bz_ w hg qz1); have GE203 := GW203; replace HB := bS_ hb; obtain ⟨NB189_203, NB203_189⟩ := nb_ hg (bk_ BK189.out); replace BK189 := bB_ BK189 hb; clear hb hbox hg; have hnb33 := NB203_189.out; have hnc33 := NB189_203.out; obtain ⟨hcz34_0, hcz34_1, hcz34_2, hcz34_3, hcz34_4, hfz34_0, hfz34_1, hfz34_2, hfz34_3, hfz34_4⟩ := b10_ BK203.out) | ((with_reducible refine gate_store (t := 37) (p := 14) rfl ?_); refine store_event (t := 37) (p := 14) (v := ?vo_w35) (w1 := (((((w32.setCell ⟨gb203, 0, none⟩ (.int .i64 ((rd_T37 t199 x43_4).f0))).setCell ⟨gb203, 1, none⟩ (.int .i64 ((rd_T37 t199 x43_4).f1))).setCell ⟨gb203, 2, none⟩ (.int .i64 ((rd_T37 t199 x43_4).f2))).setCell ⟨gb203, 3, none⟩ (.bool ((rd_T37 t199 x43_4).f3))).setCell ⟨gb203, 4, none⟩ (.int .i64 ((rd_T37 t199 x43_4).f4)))) ?hg ?ho ?hn ?hr ?_; (case ho => rfl); (case hg => rfl); (case hn => rfl); (case hr => exact qz7); intro w35 hw; replace HO_8 : Aside0 (Kd.R k37 37 w35 w.heap.size (fun k_ => k_ ≠ gb203) (.slice (some ad202) t199.length co24) t199) := ⟨(by rw [hw]; exact (by (with_reducible repeat (first | apply Kd.R_alloc | apply Kd.R_drewN | apply Kd.R_drew)); exact Kd.R_mono (Kd.R_far (p := ⟨gb203, 4, none⟩) (Kd.R_far (p := ⟨gb203, 3, none⟩) (Kd.R_far (p := ⟨gb203, 2, none⟩) (Kd.R_far (p := ⟨gb203, 1, none⟩) (Kd.R_far (p := ⟨gb203, 0, none⟩) (Kd.R_mono HO_8.out (fun k_ hk => (⟨hk, hk.2⟩ : _ ∧ k_ ≠ gb203))) (fun _ hk => hk.2) (.int .i64 ((rd_T37 t199 x43_4).f0))) (fun _ hk => hk.2) (.int .i64 ((rd_T37 t199 x43_4).f1))) (fun _ hk => hk.2) (.int .i64 ((rd_T37 t199 x43_4).f2))) (fun _ hk => hk.2) (.bool ((rd_T37 t199 x43_4).f3))) (fun _ hk => hk.2) (.int .i64 ((rd_T37 t199 x43_4).f4))) (fun _ hk => hk.1.2)))⟩; replace HO_9 : Aside0 (Kd.R Kd.bool 4 w35 w.heap.size (fun _ => True) u9 x9_4) := ⟨(by rw [hw]; exact (by (with_reducible repeat (first | apply Kd.R_alloc | apply Kd.R_drewN | apply Kd.R_drew)); exact Kd.R_mono (Kd.R_far (p := ⟨gb203, 4, none⟩) (Kd.R_far (p := ⟨gb203, 3, none⟩) (Kd.R_far (p := ⟨gb203, 2, none⟩) (Kd.R_far (p := ⟨gb203, 1, none⟩) (Kd.R_far (p := ⟨gb203, 0, none⟩) (Kd.R_types HO_9.out BK203.out (by decide)) (fun _ hk => hk.2) (.int .i64 ((rd_T37 t199 x43_4).f0))) (fun _ hk => hk.2) (.int .i64 ((rd_T37 t199 x43_4).f1))) (fun _ hk => hk.2) (.int .i64 ((rd_T37 t199 x43_4).f2))) (fun _ hk => hk.2) (.bool ((rd_T37 t199 x43_4).f3))) (fun _ hk => hk.2) (.int .i64 ((rd_T37 t199 x43_4).f4))) (fun _ hk => trivial)))⟩; replace HO_41 : Aside0 (Kd.R k37 37 w35 w.heap.size (fun k_ => k_ ≠ gb203) (.slice (some ad202) t199.length co24) t199) := ⟨(by rw [hw]; exact (by (with_reducible repeat (first | apply Kd.R_alloc | apply Kd.R_drewN | apply Kd.R_drew)); exact Kd.R_mono (Kd.R_far (p := ⟨gb203, 4, none⟩) (Kd.R_far (p := ⟨gb203, 3, none⟩) (Kd.R_far (p := ⟨gb203, 2, none⟩) (Kd.R_far (p := ⟨gb203, 1, none⟩) (Kd.R_far (p := ⟨gb203, 0, none⟩) (Kd.R_mono HO_41.out (fun k_ hk => (⟨hk, hk.2⟩ : _ ∧ k_ ≠ gb203))) (fun _ hk => hk.2) (.int .i64 ((rd_T37 t199 x43_4).f0))) (fun _ hk => hk.2) (.int .i64 ((rd_T37 t199 x43_4).f1))) (fun _ hk => hk.2) (.int .i64 ((rd_T37 t199 x43_4).f2))) (fun _ hk => hk.2) (.bool ((rd_T37 t199 x43_4).f3))) (fun _ hk => hk.2) (.int .i64 ((rd_T37 t199 x43_4).f4))) (fun _ hk => hk.1.2)))⟩; replace BK189 : Aside0 (w35.heap[gb189]? = some (.cells #[.int .i64 a0_0, .int .i64 a0_1, .slice A0_2 l0_2.length c0_2] 43 (0, 0))) := ⟨(by rw [hw]; exact (bk2_ BK189.out))⟩; replace BK203 : Aside0 (w35.heap[gb203]? = some (.cells #[.int .i64 ((rd_T37 t199 x43_4).f0), .int .i64 ((rd_T37 t199 x43_4).f1), .int .i64 ((rd_T37 t199 x43_4).f2), .bool ((rd_T37 t199 x43_4).f3), .int .i64 ((rd_T37 t199 x43_4).f4)] 37 (0, 0))) := ⟨(by rw [hw]; exact (by (with_reducible repeat (first | refine blk_drewN ?_ _ | refine blk_drew ?_ | refine blk_alloc ?_ _)); refine blk_put (cs := #[.int .i64 ((rd_T37 t199 x43_4).f0), .int .i64 ((rd_T37 t199 x43_4).f1), .int .i64 ((rd_T37 t199 x43_4).f2), .bool ((rd_T37 t199 x43_4).f3), .int .i64 0]) ?_ 4 _ rfl; (with_reducible repeat (first | refine blk_drewN ?_ _ | refine blk_drew ?_ | refine blk_alloc ?_ _)); refine blk_put (cs := #[.int .i64 ((rd_T37 t199 x43_4).f0), .int .i64 ((rd_T37 t199 x43_4).f1), .int .i64 ((rd_T37 t199 x43_4).f2), .bool false, .int .i64 0]) ?_ 3 _ rfl; (with_reducible repeat (first | refine blk_drewN ?_ _ | refine blk_drew ?_ | refine blk_alloc ?_ _)); refine blk_put (cs := #[.int .i64 ((rd_T37 t199 x43_4).f0), .int .i64 ((rd_T37 t199 x43_4).f1), .int .i64 0, .bool false, .int .i64 0]) ?_ 2 _ rfl; (with_reducible repeat (first | refine blk_drewN ?_ _ | refine blk_drew ?_ | refine blk_alloc ?_ _)); refine blk_put (cs := #[.int .i64 ((rd_T37 t199 x43_4).f0), .int .i64 0, .int .i64 0, .bool false, .int .i64 0]) ?_ 1 _ rfl; (with_reducible repeat (first | refine blk_drewN ?_ _ | refine blk_drew ?_ | refine blk_alloc ?_ _)); refine blk_put (cs := #[.int .i64 0, .int .i64 0, .int .i64 0, .bool false, .int .i64 0]) ?_ 0 _ rfl; exact bk_ BK203.out))⟩; replace HB : Aside0 (Below w.heap.size w w35) := ⟨(by rw [hw]; exact qz1)⟩; clear hw; obtain ⟨Ao36, co36, eo36⟩ := Kd.R_slice HO_9.out; subst eo36; have p204 : 0 ≤ (x43_4 : Int) := dt_; have q204 : x43_4 < (x9_4.length : Int) := dt_; obtain ⟨ad204, e204, hx204_0⟩ := Kd.at_bool (Kd.R_reads' HO_9.out).2.2 x43_4 p204 q204; (try rw [← Nbq29.out] at hx204_0); cases e204; replace p204 := eq_true p204; replace q204 := eq_true q204; have p31 : 0 ≤ (x43_4 : Int) := dt_; have q31 : (x43_4 : Int) < ((x9_4.length : Int) : Int) := dt_; obtain ⟨go31, co31, eo31, gb31, gl31, cl31, HG31⟩ := Kd.R_form HO_9.out (by omega); (first | cases eo31 | (injection eo31 with ea_ en_ ec_; (first | subst ea_ | (injection ea_ with ea_; subst ea_)); subst ec_; clear en_)); have GB31 := aM gb31; have GG31 := aM HG31; clear gb31 gl31 HG31; (first | simp only [add_plain] at hx204_0 | skip); obtain ⟨hx31_0, hf31_0⟩ := Kd.R_celln false HO_9.out (x43_4 : Int) p31 q31; replace p31 := eq_true p31; replace q31 := eq_true q31; obtain ⟨hy37_, hz37_⟩ := Kd.R_celln false HO_9.out (x43_4 : Int) (dt_) (dt_); have HP37 := Kd.R_putg HO_9.out (x43_4 : Int) true) | ((with_reducible refine gate_store (t := 4) (p := 58) rfl ?_); refine store_event (t := 4) (p := 58) (v := ?vo_w38) (w1 := (w35.setCell ⟨go31, (x43_4 : Int).toNat, none⟩ (.bool true))) ?hg ?ho ?hn ?hr ?_; (case ho => rfl); (case hg => rfl); (case hn => rfl); (case hr => exact qz7); intro w38 hw; have hg : w35.grownBy w38 (some go31) := (by rw [hw]; exact HP37.2); have hp_ : Kd.R Kd.bool 4 w38 w.heap.size (fun _ => True) (.slice (some ⟨go31, 0, none⟩) x9_4.length co36) y205 := (by rw [hw, Ny205.out]; exact HP37.1); clear HP37; replace HO_8 := aM (Kd.R_over' (v := (.slice (some ⟨go31, 0, none⟩) x9_4.length co36)) (rr_ HO_8.out) (Kd.R_typed HO_9.out) (by decide) hg); replace HO_41 := aM (Kd.R_over' (v := (.slice (some ⟨go31, 0, none⟩) x9_4.length co36)) (rr_ HO_41.out) (Kd.R_typed HO_9.out) (by decide) hg); replace BK189 := aM (blk_grown (bk_ BK189.out) hg (Kd.R_ne HO_9.out BK189.out (by decide))); replace BK203 := aM (blk_grown (bk_ BK203.out) hg (Kd.R_ne HO_9.out BK203.out (by decide))); replace HO_9 := aM (hp_); replace HB := aM ((by rw [hw]; exact below_set (HB.out) GB31.out : Below w.heap.size w w38)); clear hg hw hp_))
 go_roundg k4
 case measure => have := HK1.out; have := HK2.out; have := HJ16.out; have := HK4.out; omega
 case rel => exact ⟨(y205), (wrap64 (x43_4 + 1)), qz6, H', ⟨by have := HK1.out; have := HK2.out; have := HJ16.out; have := HK4.out; omega⟩, ⟨by (with_reducible repeat (first | apply Kd.R_alloc | apply Kd.R_drewN | apply Kd.R_drew)); exact Kd.R_mono HO_8.out (fun _ hk => trivial)⟩, ⟨rm_ HO_9.out⟩, ⟨by (with_reducible repeat (first | apply Kd.R_alloc | apply Kd.R_drewN | apply Kd.R_drew)); exact Kd.R_mono HO_41.out (fun _ hk => trivial)⟩, ⟨bk_ BK189.out⟩, ⟨qz1⟩⟩
 }
 {
 replace H := Option.bind_eq_some_iff.mp H
 obtain ⟨t206, A390, H⟩ := H
 have A39 := aM A390
 clear A390
 obtain ⟨y207, hy207⟩ : ∃ y_ : List Bool, y_ = (x9_4.set (x43_4 : Int).toNat t206) := ⟨_, rfl⟩
 replace H : (impl_Drive.l2 k4 a2 t199 y207 x12_2 t199 (t199.length : Int) (wrap64 (x43_4 + 1)) a0_0 a0_1 l0_2) = some (r1, r2) := by first | (rw [hy207]; exact H) | exact H
 have Ny207 := aM hy207
 clear hy207
 have H' := aM H
 clear H
 have p202 : (0 ≤ (x43_4 : Int)) = True := et_
 have q202 : (x43_4 < (t199.length : Int)) = True := et_
 obtain ⟨ad202, e202, hx202_0, hx202_1, hx202_2, hx202_3, hx202_4⟩ := at_T37 (Kd.R_reads' HO_41.out).2.2 x43_4 dt_ dt_
 (try rw [← Nbq29.out] at hx202_3)
 cases e202
 go_wp2_with (first | ((with_reducible refine gate_dst (N := 14) rfl ?_); refine bx_ 14 #[.int .i64 0, .int .i64 0, .int .i64 0, .bool false, .int .i64 0] 37 ?_; intro gb203 hg w41 hbox hb; replace HO_8 := aM (Kd.R_below (Kd.R_elderB (rr_ HO_8.out) gb203 (Nat.le_of_eq hg.symm)) hb); replace HO_9 := aM (Kd.R_below (rr_ HO_9.out) hb); replace HO_41 := aM (Kd.R_below (Kd.R_elderB (rr_ HO_41.out) gb203 (Nat.le_of_eq hg.symm)) hb); have BK203 := aM (hbox); have GW203 := aM (bz_ w hg qz1); have GE203 := GW203; replace HB := bS_ hb; obtain ⟨NB189_203, NB203_189⟩ := nb_ hg (bk_ BK189.out); replace BK189 := bB_ BK189 hb; clear hb hbox hg; have hnb42 := NB203_189.out; have hnc42 := NB189_203.out; obtain ⟨hcz43_0, hcz43_1, hcz43_2, hcz43_3, hcz43_4, hfz43_0, hfz43_1, hfz43_2, hfz43_3, hfz43_4⟩ := b10_ BK203.out; obtain ⟨Ao44, co44, eo44⟩ := Kd.R_slice HO_9.out; subst eo44; have p204 : 0 ≤ (x43_4 : Int) := dt_; have q204 : x43_4 < (x9_4.length : Int) := dt_; obtain ⟨ad204, e204, hx204_0⟩ := Kd.at_bool (Kd.R_reads' HO_9.out).2.2 x43_4 p204 q204; (try rw [← Nbq29.out] at hx204_0); cases e204; have hn204_0 : ad204.block ≠ gb203 := Kd.own_blk (Kd.R_ne HO_9.out BK203.out (by decide)); have hn204_1 : ad204.block ≠ gb203 := Kd.own_blk (Kd.R_ne HO_9.out BK203.out (by decide)); have hn204_2 : ad204.block ≠ gb203 := Kd.own_blk (Kd.R_ne HO_9.out BK203.out (by decide)); have hn204_3 : ad204.block ≠ gb203 := Kd.own_blk (Kd.R_ne HO_9.out BK203.out (by decide)); have hn204_4 : ad204.block ≠ gb203 := Kd.own_blk (Kd.R_ne HO_9.out BK203.out (by decide)); replace hx204_0 := (cell_far (p := ⟨gb203, 0, none⟩) (by first | (rw [add_block]; exact hn204_0) | (show (Addr.add _ _).block ≠ _; rw [add_block]; exact hn204_0) | exact hn204_0) (.int .i64 ((rd_T37 t199 x43_4).f0))).trans hx204_0; replace hx204_0 := (cell_far (p := ⟨gb203, 1, none⟩) (by first | (rw [add_block]; exact hn204_1) | (show (Addr.add _ _).block ≠ _; rw [add_block]; exact hn204_1) | exact hn204_1) (.int .i64 ((rd_T37 t199 x43_4).f1))).trans hx204_0; replace hx204_0 := (cell_far (p := ⟨gb203, 2, none⟩) (by first | (rw [add_block]; exact hn204_2) | (show (Addr.add _ _).block ≠ _; rw [add_block]; exact hn204_2) | exact hn204_2) (.int .i64 ((rd_T37 t199 x43_4).f2))).trans hx204_0; replace hx204_0 := (cell_far (p := ⟨gb203, 3, none⟩) (by first | (rw [add_block]; exact hn204_3) | (show (Addr.add _ _).block ≠ _; rw [add_block]; exact hn204_3) | exact hn204_3) (.bool ((rd_T37 t199 x43_4).f3))).trans hx204_0; replace hx204_0 := (cell_far (p := ⟨gb203, 4, none⟩) (by first | (rw [add_block]; exact hn204_4) | (show (Addr.add _ _).block ≠ _; rw [add_block]; exact hn204_4) | exact hn204_4) (.int .i64 ((rd_T37 t199 x43_4).f4))).trans hx204_0; clear hn204_0 hn204_1 hn204_2 hn204_3 hn204_4; replace p204 := eq_true p204; replace q204 := eq_true q204) | (go_at_call 87; (with_reducible refine (impl_rests.calls ((rd_T37 t199 x43_4).f0) ((rd_T37 t199 x43_4).f1) ((rd_T37 t199 x43_4).f2) ((rd_T37 t199 x43_4).f3) ((rd_T37 t199 x43_4).f4) t206 _ A39.out).mono ?_); rintro e w45 ⟨rfl, hb⟩; replace HO_8 := aM (Kd.R_below (by (with_reducible repeat (first | apply Kd.R_alloc | apply Kd.R_drewN | apply Kd.R_drew)); exact (Kd.R_mono (Kd.R_far (p := ⟨gb203, 4, none⟩) (Kd.R_far (p := ⟨gb203, 3, none⟩) (Kd.R_far (p := ⟨gb203, 2, none⟩) (Kd.R_far (p := ⟨gb203, 1, none⟩) (Kd.R_far (p := ⟨gb203, 0, none⟩) (Kd.R_mono HO_8.out (fun k_ hk => (⟨hk, hk.2⟩ : _ ∧ k_ ≠ gb203))) (fun _ hk => hk.2) (.int .i64 ((rd_T37 t199 x43_4).f0))) (fun _ hk => hk.2) (.int .i64 ((rd_T37 t199 x43_4).f1))) (fun _ hk => hk.2) (.int .i64 ((rd_T37 t199 x43_4).f2))) (fun _ hk => hk.2) (.bool ((rd_T37 t199 x43_4).f3))) (fun _ hk => hk.2) (.int .i64 ((rd_T37 t199 x43_4).f4))) (fun _ h_ => h_.1))) hb); replace HO_9 := aM (Kd.R_below (by (with_reducible repeat (first | apply Kd.R_alloc | apply Kd.R_drewN | apply Kd.R_drew)); exact (Kd.R_mono (Kd.R_far (p := ⟨gb203, 4, none⟩) (Kd.R_far (p := ⟨gb203, 3, none⟩) (Kd.R_far (p := ⟨gb203, 2, none⟩) (Kd.R_far (p := ⟨gb203, 1, none⟩) (Kd.R_far (p := ⟨gb203, 0, none⟩) (Kd.R_types HO_9.out BK203.out (by decide)) (fun _ hk => hk.2) (.int .i64 ((rd_T37 t199 x43_4).f0))) (fun _ hk => hk.2) (.int .i64 ((rd_T37 t199 x43_4).f1))) (fun _ hk => hk.2) (.int .i64 ((rd_T37 t199 x43_4).f2))) (fun _ hk => hk.2) (.bool ((rd_T37 t199 x43_4).f3))) (fun _ hk => hk.2) (.int .i64 ((rd_T37 t199 x43_4).f4))) (fun _ h_ => h_.1))) hb); replace HO_41 := aM (Kd.R_below (by (with_reducible repeat (first | apply Kd.R_alloc | apply Kd.R_drewN | apply Kd.R_drew)); exact (Kd.R_mono (Kd.R_far (p := ⟨gb203, 4, none⟩) (Kd.R_far (p := ⟨gb203, 3, none⟩) (Kd.R_far (p := ⟨gb203, 2, none⟩) (Kd.R_far (p := ⟨gb203, 1, none⟩) (Kd.R_far (p := ⟨gb203, 0, none⟩) (Kd.R_mono HO_41.out (fun k_ hk => (⟨hk, hk.2⟩ : _ ∧ k_ ≠ gb203))) (fun _ hk => hk.2) (.int .i64 ((rd_T37 t199 x43_4).f0))) (fun _ hk => hk.2) (.int .i64 ((rd_T37 t199 x43_4).f1))) (fun _ hk => hk.2) (.int .i64 ((rd_T37 t199 x43_4).f2))) (fun _ hk => hk.2) (.bool ((rd_T37 t199 x43_4).f3))) (fun _ hk => hk.2) (.int .i64 ((rd_T37 t199 x43_4).f4))) (fun _ h_ => h_.1))) hb); replace BK189 := aM (blk_below (g := gb189) (o := .cells #[.int .i64 a0_0, .int .i64 a0_1, .slice A0_2 l0_2.length c0_2] 43 (0, 0)) (bk2_ BK189.out) hb); replace BK203 := aM (blk_below (g := gb203) (o := .cells #[.int .i64 ((rd_T37 t199 x43_4).f0), .int .i64 ((rd_T37 t199 x43_4).f1), .int .i64 ((rd_T37 t199 x43_4).f2), .bool ((rd_T37 t199 x43_4).f3), .int .i64 ((rd_T37 t199 x43_4).f4)] 37 (0, 0)) (by (with_reducible repeat (first | refine blk_drewN ?_ _ | refine blk_drew ?_ | refine blk_alloc ?_ _)); refine blk_put (cs := #[.int .i64 ((rd_T37 t199 x43_4).f0), .int .i64 ((rd_T37 t199 x43_4).f1), .int .i64 ((rd_T37 t199 x43_4).f2), .bool ((rd_T37 t199 x43_4).f3), .int .i64 0]) ?_ 4 _ rfl; (with_reducible repeat (first | refine blk_drewN ?_ _ | refine blk_drew ?_ | refine blk_alloc ?_ _)); refine blk_put (cs := #[.int .i64 ((rd_T37 t199 x43_4).f0), .int .i64 ((rd_T37 t199 x43_4).f1), .int .i64 ((rd_T37 t199 x43_4).f2), .bool false, .int .i64 0]) ?_ 3 _ rfl; (with_reducible repeat (first | refine blk_drewN ?_ _ | refine blk_drew ?_ | refine blk_alloc ?_ _)); refine blk_put (cs := #[.int .i64 ((rd_T37 t199 x43_4).f0), .int .i64 ((rd_T37 t199 x43_4).f1), .int .i64 0, .bool false, .int .i64 0]) ?_ 2 _ rfl; (with_reducible repeat (first | refine blk_drewN ?_ _ | refine blk_drew ?_ | refine blk_alloc ?_ _)); refine blk_put (cs := #[.int .i64 ((rd_T37 t199 x43_4).f0), .int .i64 0, .int .i64 0, .bool false, .int .i64 0]) ?_ 1 _ rfl; (with_reducible repeat (first | refine blk_drewN ?_ _ | refine blk_drew ?_ | refine blk_alloc ?_ _)); refine blk_put (cs := #[.int .i64 0, .int .i64 0, .int .i64 0, .bool false, .int .i64 0]) ?_ 0 _ rfl; exact bk_ BK203.out) hb); replace HB := bS_ hb; (try clear hb); have p40 : 0 ≤ (x43_4 : Int) := dt_; have q40 : (x43_4 : Int) < ((x9_4.length : Int) : Int) := dt_; obtain ⟨go40, co40, eo40, gb40, gl40, cl40, HG40⟩ := Kd.R_form HO_9.out (by omega); (first | cases eo40 | (injection eo40 with ea_ en_ ec_; (first | subst ea_ | (injection ea_ with ea_; subst ea_)); subst ec_; clear en_)); have GB40 := aM gb40; have GG40 := aM HG40; clear gb40 gl40 HG40; (first | simp only [add_plain] at hx204_0 | skip); obtain ⟨hx40_0, hf40_0⟩ := Kd.R_celln false HO_9.out (x43_4 : Int) p40 q40; replace p40 := eq_true p40; replace q40 := eq_true q40; obtain ⟨hy46_, hz46_⟩ := Kd.R_celln false HO_9.out (x43_4 : Int) (dt_) (dt_); have HP46 := Kd.R_putg HO_9.out (x43_4 : Int) t206) | ((with_reducible refine gate_store (t := 4) (p := 58) rfl ?_); refine store_event (t := 4) (p := 58) (v := ?vo_w47) (w1 := (w45.setCell ⟨go40, (x43_4 : Int).toNat, none⟩ (.bool t206))) ?hg ?ho ?hn ?hr ?_; (case ho => rfl); (case hg => rfl); (case hn => rfl); (case hr => exact qz7); intro w47 hw; have hg : w45.grownBy w47 (some go40) := (by rw [hw]; exact HP46.2); have hp_ : Kd.R Kd.bool 4 w47 w.heap.size (fun _ => True) (.slice (some ⟨go40, 0, none⟩) x9_4.length co44) y207 := (by rw [hw, Ny207.out]; exact HP46.1); clear HP46; replace HO_8 := aM (Kd.R_over' (v := (.slice (some ⟨go40, 0, none⟩) x9_4.length co44)) (rr_ HO_8.out) (Kd.R_typed HO_9.out) (by decide) hg); replace HO_41 := aM (Kd.R_over' (v := (.slice (some ⟨go40, 0, none⟩) x9_4.length co44)) (rr_ HO_41.out) (Kd.R_typed HO_9.out) (by decide) hg); replace BK189 := aM (blk_grown (bk_ BK189.out) hg (Kd.R_ne HO_9.out BK189.out (by decide))); replace BK203 := aM (blk_grown (bk_ BK203.out) hg (Kd.R_ne HO_9.out BK203.out (by decide))); replace HO_9 := aM (hp_); replace HB := aM ((by rw [hw]; exact below_set (HB.out) GB40.out : Below w.heap.size w w47)); clear hg hw hp_))
 go_roundg k4
 case measure => have := HK1.out; have := HK2.out; have := HJ16.out; have := HK4.out; omega
 case rel => exact ⟨(y207), (wrap64 (x43_4 + 1)), qz6, H', ⟨by have := HK1.out; have := HK2.out; have := HJ16.out; have := HK4.out; omega⟩, ⟨by (with_reducible repeat (first | apply Kd.R_alloc | apply Kd.R_drewN | apply Kd.R_drew)); exact Kd.R_mono HO_8.out (fun _ hk => trivial)⟩, ⟨rm_ HO_9.out⟩, ⟨by (with_reducible repeat (first | apply Kd.R_alloc | apply Kd.R_drewN | apply Kd.R_drew)); exact Kd.R_mono HO_41.out (fun _ hk => trivial)⟩, ⟨bk_ BK189.out⟩, ⟨qz1⟩⟩
 }
 }
 {
 have H' := aM H
 clear H
 go_wp2
 go_roundg k4
 case measure => have := HK1.out; have := HK2.out; have := HJ16.out; have := HK4.out; omega
 case rel => exact ⟨(t199), (x9_4), (wrap64 (x12_2 + 1)), qz6, H', ⟨by have := HK1.out; have := HK2.out; have := HJ16.out; have := HK4.out; omega⟩, ⟨rm_ HO_8.out⟩, ⟨rm_ HO_9.out⟩, ⟨bk_ BK189.out⟩, ⟨qz1⟩⟩
 }
 }
 {
 simp only [Option.some.injEq, Prod.mk.injEq] at H
 obtain ⟨rfl, rfl⟩ := H
 go_wp2
 go_ret2
 exact ⟨_, _, qzw, by (with_reducible repeat (first | apply Kd.R_alloc | apply Kd.R_drewN | apply Kd.R_drew)); exact HO_8.out, by (with_reducible repeat (first | apply Kd.R_alloc | apply Kd.R_drewN | apply Kd.R_drew)); exact HO_9.out, qz1⟩
 }
 }
end Go.Proofs.Ytankmdbbgepmbaa.PFnLively
