/- A head has 40 bytes, an envelope 76 and its Body's; the head of an envelope's bytes is read from them alone: the statement HeadSizes. No condition. -/
import Derived.Test.YtpjjledbmfmbiaaRows
import Derived.Test.YtpjjledbmfmbiaaA12b
namespace Go.Proofs.Ytpjjledbmfmbiaa
open Go.RowKit Go.PBYtpjjledbmfmbiaa
set_option linter.unusedVariables false
set_option linter.unusedSimpArgs false
set_option maxRecDepth 10000

def law12s (x : EnvD) (w : World) (B : Option Addr) (n c : Nat) : Prop :=
  Calls Try.prog 4 #[.agg (envC x.f x.t x.cm x.pub x.p x.q (.slice B n c)).toArray] w fun e w' => e = .returned (.bool true) ∧ Kept [] w w'
set_option maxHeartbeats 2000000 in
theorem sizes_long (x : EnvD) (w : World) (B : Option Addr) (n c : Nat) (hcm : x.cm.length = 32) (hp : x.pub.length = 32) (hn : 1000 < n) : law12s x w B n c := by
  have hF := envC_f (f := x.f) (t := x.t) (p := x.p) (q := x.q) (sl := .slice B n c) hcm hp
  unfold law12s
  obtain ⟨h, hh⟩ : ∃ h, envC x.f x.t x.cm x.pub x.p x.q (.slice B n c) = h := ⟨_, rfl⟩
  rw [hh] at hF ⊢
  obtain ⟨h0, g0, g1, g2, g3, g4⟩ := hF
  refine enter (n := 78) (R := fun e L => e = .returned (.bool true)) [.agg h.toArray] Try.func4 rfl rfl rfl (St.refl w) ?_ (fun e w' L' h H => ⟨h, H.kept⟩)
  refine VC_seq ?_
  refine VC_region ?_
  refine l_boxA rfl rfl ?_
  intro b1
  refine vl_v (q_assign rfl) rfl ?_
  refine vl_nil ?_
  refine (th_n ?_)
  refine VC_seq ?_
  refine VC_region ?_
  refine vl_v (q_callV Try.func8 rfl rfl rfl (fun w1 H1 => awake12_calls w1)) rfl ?_
  refine vl_v (q_assign rfl) rfl ?_
  refine vl_nil ?_
  refine (th_n ?_)
  refine VC_seq ?_
  refine VC_seq ?_
  refine VC_region ?_
  refine vl_v (q_fldA fo35_4 (by decide) rfl rfl) rfl ?_
  refine vl_v (q_load 0 Try.underlying26 rfl rfl rfl g4) rfl ?_
  refine vl_v (q_lenS Try.underlying26 rfl) rfl ?_
  first | (refine vl_v (q_gtr_n (q := 1000) Try.underlying3 rfl rfl) rfl ?_) | (refine vl_v (q_gtr_k Try.underlying3 rfl rfl) rfl ?_)
  refine vl_nil ?_
  refine (th_n ?_)
  refine VC_cond rfl (fun ht12 => ?_) (fun ht12 => ?_)
  · skip
    have ht12 := of_decide_eq_true ht12
    refine VC_seq ?_
    refine VC_region ?_
    refine vl_v (q_move rfl) rfl ?_
    refine vl_v (q_assign rfl) rfl ?_
    refine vl_nil ?_
    refine (th_n ?_)
    refine VC_ret ?_
    refine (th_r ?_)
    refine ⟨_, res1 rfl rfl, ?_⟩
    exact rfl
  · skip
    exfalso; have ht12 := of_decide_eq_false ht12; omega
set_option maxHeartbeats 2000000 in
theorem sizes_wrong (x : EnvD) (w : World) (B : Option Addr) (n c : Nat) (hcm : x.cm.length = 32) (hp : x.pub.length = 32) (hn : n ≤ 1000) (hr : rightEB x.f x.t x.p x.q n = false) : law12s x w B n c := by
  have hF := envC_f (f := x.f) (t := x.t) (p := x.p) (q := x.q) (sl := .slice B n c) hcm hp
  have hE := fun w => henv_bad x.f x.t x.cm x.pub x.p x.q n c B hcm hp hr w
  unfold law12s
  obtain ⟨h, hh⟩ : ∃ h, envC x.f x.t x.cm x.pub x.p x.q (.slice B n c) = h := ⟨_, rfl⟩
  rw [hh] at hF hE ⊢
  obtain ⟨h0, g0, g1, g2, g3, g4⟩ := hF
  refine enter (n := 78) (R := fun e L => e = .returned (.bool true)) [.agg h.toArray] Try.func4 rfl rfl rfl (St.refl w) ?_ (fun e w' L' h H => ⟨h, H.kept⟩)
  refine VC_seq ?_
  refine VC_region ?_
  refine l_boxA rfl rfl ?_
  intro b1
  refine vl_v (q_assign rfl) rfl ?_
  refine vl_nil ?_
  refine (th_n ?_)
  refine VC_seq ?_
  refine VC_region ?_
  refine vl_v (q_callV Try.func8 rfl rfl rfl (fun w1 H1 => awake12_calls w1)) rfl ?_
  refine vl_v (q_assign rfl) rfl ?_
  refine vl_nil ?_
  refine (th_n ?_)
  refine VC_seq ?_
  refine VC_seq ?_
  refine VC_region ?_
  refine vl_v (q_fldA fo35_4 (by decide) rfl rfl) rfl ?_
  refine vl_v (q_load 0 Try.underlying26 rfl rfl rfl g4) rfl ?_
  refine vl_v (q_lenS Try.underlying26 rfl) rfl ?_
  first | (refine vl_v (q_gtr_n (q := 1000) Try.underlying3 rfl rfl) rfl ?_) | (refine vl_v (q_gtr_k Try.underlying3 rfl rfl) rfl ?_)
  refine vl_nil ?_
  refine (th_n ?_)
  refine VC_cond rfl (fun ht12 => ?_) (fun ht12 => ?_)
  · skip
    exfalso; have ht12 := of_decide_eq_true ht12; omega
  · skip
    have ht12 := of_decide_eq_false ht12
    refine VC_skip ?_
    refine (th_n ?_)
    refine VC_seq ?_
    refine VC_region ?_
    refine vl_v (q_loads 0 Try.underlying35 rfl rfl rfl sz35 h0) rfl ?_
    refine vl_v (q_callV Try.func13 rfl rfl rfl (fun w1 H1 => hE w1)) rfl ?_
    refine vl_v (q_move rfl) rfl ?_
    refine vl_v (q_ext rfl rfl) rfl ?_
    refine vl_v (q_ext rfl rfl) rfl ?_
    refine vl_v (q_assign rfl) rfl ?_
    refine vl_v (q_assign rfl) rfl ?_
    refine vl_nil ?_
    refine (th_n ?_)
    refine VC_seq ?_
    refine VC_seq ?_
    refine VC_region ?_
    refine vl_v (q_move rfl) rfl ?_
    refine vl_v (q_as (v := .bool true) (q_neq_n (q := 0) Try.underlying28 rfl rfl) (by rfl)) rfl ?_
    refine vl_nil ?_
    refine (th_n ?_)
    refine VC_yes (rfl) ?_
    refine VC_seq ?_
    refine VC_region ?_
    refine vl_v (q_move rfl) rfl ?_
    refine vl_v (q_move rfl) rfl ?_
    refine vl_vg rfl (q_move rfl) rfl ?_
    refine vl_vg rfl (q_lenS Try.underlying26 rfl) rfl ?_
    refine vl_vg rfl (q_true (q_eql_n (q := 0) Try.underlying3 rfl rfl) (decide_eq_true rfl)) rfl ?_
    first | (refine vl_v (q_pickT rfl rfl) rfl ?_) | (refine vl_v (q_pickF rfl rfl) rfl ?_)
    refine vl_v (q_assign rfl) rfl ?_
    refine vl_nil ?_
    refine (th_n ?_)
    refine VC_ret ?_
    refine (th_r ?_)
    refine ⟨_, res1 rfl rfl, ?_⟩
    exact rfl
theorem u8_small (f : Nat) (h : f ≤ 7) : (UInt8.ofNat f).toNat = f := UInt8.toNat_ofNat_of_lt' (by show f < 256; omega)
set_option maxHeartbeats 2000000 in
theorem sizes_right (f t : Nat) (cm pub : List UInt8) (x y : Nat) (body : List UInt8) (w : World) (B : Option Addr) (n c : Nat) (hcm : cm.length = 32) (hp : pub.length = 32) (hnb : n = body.length) (hc : n ≤ c) (hn : n ≤ 1000) (hB : SlAt w B (bys body)) (hr : rightEB f t x y n = true) : law12s ⟨f, t, cm, pub, x, y, body⟩ w B n c := by
  have hF := envC_f (f := (f : Int)) (t := (t : Int)) (p := (x : Int)) (q := (y : Int)) (sl := .slice B n c) hcm hp
  have hE := fun w hs => henv_ok f t cm pub x y body n c B hnb hcm hp hr w hs
  obtain ⟨h1, h2, h3⟩ := rightEB_iff.1 hr
  have h4 := rightB_iff.1 h2
  have lu := envB_length (f := f) (t := t) (x := x) (y := y) (body := body) hcm hp
  have e0 : ((envB f t cm pub x y body).getD 0 0).toNat = f := u8_small f (by omega)
  have e1 : ((envB f t cm pub x y body).getD 1 0).toNat = t := u8_small t (by omega)
  have lh := headB_length hp x y
  have e2 : ((envB f t cm pub x y body).drop 34).take 40 = headB pub x y := by
    unfold envB
    rw [List.append_assoc, List.append_assoc, List.drop_left' (by simp [hcm]), List.take_left' lh]
  have e3 : (envB f t cm pub x y body).drop 76 = body := by
    unfold envB
    rw [List.drop_left' (by simp [hcm, lh, highB_length])]
  have hf := headC_fits hp (wf_small x (by omega)) (wf_small y (by omega))
  have hl1 := headC_length hp x y
  have ho : ∀ u ∈ headC pub x y, u.oneCell' = true := app_one (bys_one _) (one_all rfl)
  have rC := rdC_headB hp h2
  have rE := rdE_headB hp h2
  obtain ⟨hb, ehb⟩ : ∃ u, headB pub x y = u := ⟨_, rfl⟩
  rw [ehb] at lh e2 rC rE
  have hrd := fun (A : Option Addr) (c : Nat) (hc : 40 ≤ c) w hs => read_calls hb A (74 - 34) c (by omega) (by omega) w hs
  rw [rC, rE] at hrd
  obtain ⟨u, hu⟩ : ∃ u, envB f t cm pub x y body = u := ⟨_, rfl⟩
  rw [hu] at hE lu e0 e1 e2 e3
  unfold law12s
  obtain ⟨h, hh⟩ : ∃ h, envC f t cm pub x y (.slice B n c) = h := ⟨_, rfl⟩
  simp only
  rw [hh] at hF hE ⊢
  obtain ⟨h0, g0, g1, g2, g3, g4⟩ := hF
  refine enter (n := 78) (R := fun e L => e = .returned (.bool true)) [.agg h.toArray] Try.func4 rfl rfl rfl (St.refl w) ?_ (fun e w' L' h H => ⟨h, H.kept⟩)
  refine VC_seq ?_
  refine VC_region ?_
  refine l_boxA rfl rfl ?_
  intro b1
  refine vl_v (q_assign rfl) rfl ?_
  refine vl_nil ?_
  refine (th_n ?_)
  refine VC_seq ?_
  refine VC_region ?_
  refine vl_v (q_callV Try.func8 rfl rfl rfl (fun w1 H1 => awake12_calls w1)) rfl ?_
  refine vl_v (q_assign rfl) rfl ?_
  refine vl_nil ?_
  refine (th_n ?_)
  refine VC_seq ?_
  refine VC_seq ?_
  refine VC_region ?_
  refine vl_v (q_fldA fo35_4 (by decide) rfl rfl) rfl ?_
  refine vl_v (q_load 0 Try.underlying26 rfl rfl rfl g4) rfl ?_
  refine vl_v (q_lenS Try.underlying26 rfl) rfl ?_
  first | (refine vl_v (q_gtr_n (q := 1000) Try.underlying3 rfl rfl) rfl ?_) | (refine vl_v (q_gtr_k Try.underlying3 rfl rfl) rfl ?_)
  refine vl_nil ?_
  refine (th_n ?_)
  refine VC_cond rfl (fun ht12 => ?_) (fun ht12 => ?_)
  · skip
    exfalso; have ht12 := of_decide_eq_true ht12; omega
  · skip
    have ht12 := of_decide_eq_false ht12
    refine VC_skip ?_
    refine (th_n ?_)
    refine VC_seq ?_
    refine VC_region ?_
    refine vl_v (q_loads 0 Try.underlying35 rfl rfl rfl sz35 h0) rfl ?_
    refine l_callT Try.func13 rfl rfl rfl (fun w1 H1 => hE w1 (Reads.old hB w1 H1)) rfl ?_
    intro A16 c16 hc16 hm16
    refine vl_v (q_move rfl) rfl ?_
    refine vl_v (q_ext rfl rfl) rfl ?_
    refine vl_v (q_ext rfl rfl) rfl ?_
    refine vl_v (q_assign rfl) rfl ?_
    refine vl_v (q_assign rfl) rfl ?_
    refine vl_nil ?_
    refine (th_n ?_)
    refine VC_seq ?_
    refine VC_seq ?_
    refine VC_region ?_
    refine vl_v (q_move rfl) rfl ?_
    refine vl_v (q_as (v := .bool false) (q_neq_n (q := 0) Try.underlying28 rfl rfl) (by rfl)) rfl ?_
    refine vl_nil ?_
    refine (th_n ?_)
    refine VC_no (rfl) ?_
    refine VC_skip ?_
    refine (th_n ?_)
    refine VC_seq ?_
    refine VC_seq ?_
    refine VC_region ?_
    refine vl_v (q_move rfl) rfl ?_
    refine vl_v (q_lenS Try.underlying26 rfl) rfl ?_
    refine vl_v (q_fldA fo35_4 (by decide) rfl rfl) rfl ?_
    refine vl_v (q_load 1 Try.underlying26 rfl rfl rfl g4) rfl ?_
    refine vl_v (q_lenS Try.underlying26 rfl) rfl ?_
    first | (refine vl_v (q_add_n (p := 76) rfl rfl (by omega)) rfl ?_) | (refine vl_v (q_add_i rfl rfl (by omega) (by omega)) rfl ?_)
    refine vl_v (q_as (v := .bool false) (q_neq_n Try.underlying3 rfl rfl) (by simp)) rfl ?_
    refine vl_nil ?_
    refine (th_n ?_)
    refine VC_no (rfl) ?_
    refine VC_skip ?_
    refine (th_n ?_)
    refine VC_seq ?_
    refine VC_region ?_
    refine vl_v (q_move rfl) rfl ?_
    refine vl_v (q_slcS (l := 34) (h := 74) Try.underlying26 sz5 rfl ⟨_, rfl⟩ ⟨_, rfl⟩ rfl (.inl rfl) (by omega) (by omega) (by omega)) rfl ?_
    refine vl_v (q_callV Try.func11 rfl rfl rfl (fun w1 H1 => hrd _ _ (by omega) w1 (by have := at_take (n := 40) (adv_at (n := 34) (m := 76 + n) (c := c16) (Reads.row 0 rfl w1 H1) (by omega) (by omega)); rwa [e2] at this))) rfl ?_
    refine vl_v (q_move rfl) rfl ?_
    refine vl_v (q_ext rfl rfl) rfl ?_
    refine vl_v (q_ext rfl rfl) rfl ?_
    refine l_allocA zr25 rfl ?_
    intro b6
    refine l_storeA 0 rfl rfl rfl sz25 (by first | assumption | omega | (rw [zHeadC_eq]; exact zHeadC_length) | (simp only [bys_length]; omega)) (by first | (with_reducible first | exact bys_one _ | exact u32s_one _ | exact u64s_one _ | exact i64s_one _ | exact n64s_one _ | assumption) | exact bys_one _ | exact u32s_one _ | exact u64s_one _ | exact i64s_one _ | exact one_all rfl | (refine app_one ?_ ?_ <;> first | exact bys_one _ | exact one_all rfl | (simp; done))) (by first | assumption | omega | (rw [zHeadC_eq]; exact zHeadC_length) | (simp only [bys_length]; omega)) ?_
    simp only [List.set_cons_zero, List.set_cons_succ]
    refine vl_v (q_assign rfl) rfl ?_
    refine vl_nil ?_
    refine (th_n ?_)
    refine VC_seq ?_
    refine VC_drawV 36 [[], [0], [1], [2, 1], [1, 3], [4, 1], [5], [5], [7, 5], [6, 8, 5], [5, 9], [10, 5], [11], [12, 11], [13, 11], [14, 11], [11], [16, 11], [15, 17, 11], [11, 18], [19, 11], [20], [21, 20], [22, 20], [23, 20], [20], [25, 20], [24, 26, 20], [20, 27], [28, 20], [29], [30, 29], [31, 29], [29], [33, 29], [34, 29], [32, 35, 29], [29, 36], [37, 29, 0, 1, 2, 3, 4, 5, 6, 7, 8, 9, 10, 11, 12, 13, 14, 15, 16, 17, 18, 19, 20, 21, 22, 23, 24, 25, 26, 27, 28, 30, 31, 32, 33, 34, 35, 36]] [[], [0], [0, 1], [0, 1, 2], [0, 1, 2, 3], [0, 1, 2, 3, 4], [0, 1, 2, 3, 4, 5], [0, 1, 2, 3, 4, 5], [0, 1, 2, 3, 4, 5, 7], [0, 1, 2, 3, 4, 5, 6, 7, 8], [0, 1, 2, 3, 4, 5, 6, 7, 8, 9], [0, 1, 2, 3, 4, 5, 6, 7, 8, 9, 10], [0, 1, 2, 3, 4, 5, 6, 7, 8, 9, 10, 11], [0, 1, 2, 3, 4, 5, 6, 7, 8, 9, 10, 11, 12], [0, 1, 2, 3, 4, 5, 6, 7, 8, 9, 10, 11, 12, 13], [0, 1, 2, 3, 4, 5, 6, 7, 8, 9, 10, 11, 12, 13, 14], [0, 1, 2, 3, 4, 5, 6, 7, 8, 9, 10, 11], [0, 1, 2, 3, 4, 5, 6, 7, 8, 9, 10, 11, 16], [0, 1, 2, 3, 4, 5, 6, 7, 8, 9, 10, 11, 12, 13, 14, 15, 16, 17], [0, 1, 2, 3, 4, 5, 6, 7, 8, 9, 10, 11, 12, 13, 14, 15, 16, 17, 18], [0, 1, 2, 3, 4, 5, 6, 7, 8, 9, 10, 11, 12, 13, 14, 15, 16, 17, 18, 19], [0, 1, 2, 3, 4, 5, 6, 7, 8, 9, 10, 11, 12, 13, 14, 15, 16, 17, 18, 19, 20], [0, 1, 2, 3, 4, 5, 6, 7, 8, 9, 10, 11, 12, 13, 14, 15, 16, 17, 18, 19, 20, 21], [0, 1, 2, 3, 4, 5, 6, 7, 8, 9, 10, 11, 12, 13, 14, 15, 16, 17, 18, 19, 20, 21, 22], [0, 1, 2, 3, 4, 5, 6, 7, 8, 9, 10, 11, 12, 13, 14, 15, 16, 17, 18, 19, 20, 21, 22, 23], [0, 1, 2, 3, 4, 5, 6, 7, 8, 9, 10, 11, 12, 13, 14, 15, 16, 17, 18, 19, 20], [0, 1, 2, 3, 4, 5, 6, 7, 8, 9, 10, 11, 12, 13, 14, 15, 16, 17, 18, 19, 20, 25], [0, 1, 2, 3, 4, 5, 6, 7, 8, 9, 10, 11, 12, 13, 14, 15, 16, 17, 18, 19, 20, 21, 22, 23, 24, 25, 26], [0, 1, 2, 3, 4, 5, 6, 7, 8, 9, 10, 11, 12, 13, 14, 15, 16, 17, 18, 19, 20, 21, 22, 23, 24, 25, 26, 27], [0, 1, 2, 3, 4, 5, 6, 7, 8, 9, 10, 11, 12, 13, 14, 15, 16, 17, 18, 19, 20, 21, 22, 23, 24, 25, 26, 27, 28], [0, 1, 2, 3, 4, 5, 6, 7, 8, 9, 10, 11, 12, 13, 14, 15, 16, 17, 18, 19, 20, 21, 22, 23, 24, 25, 26, 27, 28, 29], [0, 1, 2, 3, 4, 5, 6, 7, 8, 9, 10, 11, 12, 13, 14, 15, 16, 17, 18, 19, 20, 21, 22, 23, 24, 25, 26, 27, 28, 29, 30], [0, 1, 2, 3, 4, 5, 6, 7, 8, 9, 10, 11, 12, 13, 14, 15, 16, 17, 18, 19, 20, 21, 22, 23, 24, 25, 26, 27, 28, 29, 30, 31], [0, 1, 2, 3, 4, 5, 6, 7, 8, 9, 10, 11, 12, 13, 14, 15, 16, 17, 18, 19, 20, 21, 22, 23, 24, 25, 26, 27, 28, 29], [0, 1, 2, 3, 4, 5, 6, 7, 8, 9, 10, 11, 12, 13, 14, 15, 16, 17, 18, 19, 20, 21, 22, 23, 24, 25, 26, 27, 28, 29, 33], [0, 1, 2, 3, 4, 5, 6, 7, 8, 9, 10, 11, 12, 13, 14, 15, 16, 17, 18, 19, 20, 21, 22, 23, 24, 25, 26, 27, 28, 29, 33, 34], [0, 1, 2, 3, 4, 5, 6, 7, 8, 9, 10, 11, 12, 13, 14, 15, 16, 17, 18, 19, 20, 21, 22, 23, 24, 25, 26, 27, 28, 29, 30, 31, 32, 33, 34, 35], [0, 1, 2, 3, 4, 5, 6, 7, 8, 9, 10, 11, 12, 13, 14, 15, 16, 17, 18, 19, 20, 21, 22, 23, 24, 25, 26, 27, 28, 29, 30, 31, 32, 33, 34, 35, 36], [0, 1, 2, 3, 4, 5, 6, 7, 8, 9, 10, 11, 12, 13, 14, 15, 16, 17, 18, 19, 20, 21, 22, 23, 24, 25, 26, 27, 28, 29, 30, 31, 32, 33, 34, 35, 36, 37]] rfl (by kernel_rfl) ?_
    refine qv_v (q_move rfl) ?_
    refine qv_v (q_move rfl) ?_
    refine qv_vg (rfl) (q_move rfl) ?_
    refine qv_vg (rfl) (q_true (q_eql_n (q := 0) Try.underlying28 rfl rfl) (decide_eq_true rfl)) ?_
    first | (refine qv_v (q_pickT rfl rfl) ?_) | (refine qv_v (q_pickF rfl rfl) ?_)
    refine qv_v (q_move rfl) ?_
    first | (refine qv_vg (rfl) (q_loads 0 Try.underlying25 rfl rfl rfl sz25 (by first | assumption | omega | (rw [zHeadC_eq]; exact zHeadC_length) | (simp only [bys_length]; omega))) ?_) | (refine qv_vg (rfl) (q_loadsAt 0 Try.underlying25 rfl rfl rfl sz25 (by rfl) (by first | assumption | omega | (rw [zHeadC_eq]; exact zHeadC_length) | (simp only [bys_length]; omega))) ?_)
    refine qv_vg (rfl) (q_fldA fo35_3 (by decide) rfl rfl) ?_
    refine qv_vg (rfl) (q_loadsAt 2 Try.underlying25 rfl rfl rfl sz25 g3 hl1) ?_
    refine qv_vg (rfl) (q_eqT flatHead rfl rfl hf rfl) ?_
    first | (refine qv_v (q_pickT rfl rfl) ?_) | (refine qv_v (q_pickF rfl rfl) ?_)
    refine qv_v (q_move rfl) ?_
    refine qv_vg (rfl) (q_move rfl) ?_
    refine qv_vg (rfl) (q_idxRd (m := 0) Try.underlying26 sz5 rfl rfl (by first | assumption | omega | (rw [zHeadC_eq]; exact zHeadC_length) | (simp only [bys_length]; omega)) (Reads.row 1 rfl) (by first | assumption | omega | (rw [zHeadC_eq]; exact zHeadC_length) | (simp only [bys_length]; omega))) ?_
    refine qv_vg (rfl) (q_loadRd Try.underlying5 rfl rfl (Reads.row 1 rfl) (bys_at (by first | assumption | omega | (rw [zHeadC_eq]; exact zHeadC_length) | (simp only [bys_length]; omega)))) ?_
    refine qv_vg (rfl) (q_conv_nn Try.underlying5 Try.underlying3 rfl (by omega)) ?_
    refine qv_vg (rfl) (q_fldA fo35_0 (by decide) rfl rfl) ?_
    refine qv_vg (rfl) (q_load 2 Try.underlying3 rfl rfl rfl g0) ?_
    refine qv_vg (rfl) (q_true (q_eql_n Try.underlying3 rfl rfl) (decide_eq_true e0)) ?_
    first | (refine qv_v (q_pickT rfl rfl) ?_) | (refine qv_v (q_pickF rfl rfl) ?_)
    refine qv_v (q_move rfl) ?_
    refine qv_vg (rfl) (q_move rfl) ?_
    refine qv_vg (rfl) (q_idxRd (m := 1) Try.underlying26 sz5 rfl rfl (by first | assumption | omega | (rw [zHeadC_eq]; exact zHeadC_length) | (simp only [bys_length]; omega)) (Reads.row 1 rfl) (by first | assumption | omega | (rw [zHeadC_eq]; exact zHeadC_length) | (simp only [bys_length]; omega))) ?_
    refine qv_vg (rfl) (q_loadRd Try.underlying5 rfl rfl (Reads.row 1 rfl) (bys_at (by first | assumption | omega | (rw [zHeadC_eq]; exact zHeadC_length) | (simp only [bys_length]; omega)))) ?_
    refine qv_vg (rfl) (q_conv_nn Try.underlying5 Try.underlying3 rfl (by omega)) ?_
    refine qv_vg (rfl) (q_fldA fo35_1 (by decide) rfl rfl) ?_
    refine qv_vg (rfl) (q_load 2 Try.underlying3 rfl rfl rfl g1) ?_
    refine qv_vg (rfl) (q_true (q_eql_n Try.underlying3 rfl rfl) (decide_eq_true e1)) ?_
    first | (refine qv_v (q_pickT rfl rfl) ?_) | (refine qv_v (q_pickF rfl rfl) ?_)
    refine qv_v (q_move rfl) ?_
    refine qv_vg (rfl) (q_move rfl) ?_
    refine qv_vg (rfl) (q_slcS (l := 76) Try.underlying26 sz5 rfl ⟨_, rfl⟩ rfl rfl (.inl rfl) (by omega) (by omega) (by omega)) ?_
    refine qv_vg (rfl) (q_str (l := body) Try.underlying26 Try.underlying5 Try.underlying9 rfl (fun w1 H1 => by have := adv_at (n := 76) (m := 76 + n) (c := c16) (Reads.row 1 rfl w1 H1) (by omega) (by omega); rwa [e3] at this) (by omega)) ?_
    refine qv_vg (rfl) (q_fldA fo35_4 (by decide) rfl rfl) ?_
    refine qv_vg (rfl) (q_load 2 Try.underlying26 rfl rfl rfl g4) ?_
    refine qv_vg (rfl) (q_str (l := body) Try.underlying26 Try.underlying5 Try.underlying9 rfl (Reads.old hB) (by omega)) ?_
    refine qv_end ?_
    refine VL.keep (Sub.cons (s := 0) rfl (Sub.cons (s := 1) rfl (Sub.cons (s := 2) rfl (Sub.cons (s := 3) rfl (Sub.cons (s := 12) rfl (Sub.cons (s := 4) rfl (Sub.cons (s := 5) rfl (Sub.cons (s := 20) rfl (Sub.cons (s := 33) rfl (Sub.cons (s := 6) rfl (Sub.cons (s := 7) rfl (Sub.cons (s := 69) rfl (Sub.cons (s := 72) rfl (Sub.cons (s := 75) rfl (Sub.nil _))))))))))))))) ?_
    refine vl_vg rfl (q_true (q_eqStr Try.underlying9 rfl rfl) (decide_eq_true rfl)) rfl ?_
    first | (refine vl_v (q_pickT rfl rfl) rfl ?_) | (refine vl_v (q_pickF rfl rfl) rfl ?_)
    refine vl_v (q_assign rfl) rfl ?_
    refine vl_nil ?_
    refine (qn_n (th_n ?_))
    refine VC_ret ?_
    refine ⟨_, res1 rfl rfl, ?_⟩
    exact rfl
theorem headSizes.walk (w : World) (v0 : Value) (x : EnvD) (h0 : EnvV w v0 x) :
    Calls Try.prog 4 #[v0] w fun e w' => e = .returned (.bool true) ∧ Kept [] w w' := by
  obtain ⟨B, n, c, rfl, hcm, hp, hn, hc, _, hB⟩ := h0
  by_cases hm : 1000 < n
  · exact sizes_long x w B n c hcm hp hm
  cases hr : rightEB x.f x.t x.p x.q n with
  | true =>
    obtain ⟨g1, g2, g3⟩ := rightEB_iff.1 hr
    obtain ⟨a, b, e1, e2, _, _⟩ := rightB_nat g2
    obtain ⟨f, t, cm, pub, p, q, body⟩ := x
    simp only at *
    obtain ⟨f', rfl⟩ : ∃ f' : Nat, f = (f' : Int) := ⟨f.toNat, by omega⟩
    obtain ⟨t', rfl⟩ : ∃ t' : Nat, t = (t' : Int) := ⟨t.toNat, by omega⟩
    subst e1 e2
    exact sizes_right f' t' cm pub a b body w B n c hcm hp hn hc (by omega) hB hr
  | false => exact sizes_wrong x w B n c hcm hp (by omega) hr

namespace headSizes
open Go.ChangeShapes Go.WideShapes Go.ChangeAt Go.RowKit
theorem own : ownKnob Try.prog.godebug = none := by kernel_rfl
theorem laidOut : laidOutB Try.prog = true := by kernel_rfl
set_option maxRecDepth 100000 in
theorem lifted (os : Os) (started : os.Started) (H : Type) (enc : TypeId × Value → H) :
    ReturnsInHanded {} Try.checked os 4 .any (Rows.headSizesSpec.pre6 enc Try.prog Try.f4 Rows.headSizesRow.domain false) (Rows.headSizesSpec.post enc Try.prog Try.f4 false true false false) := by
  refine returnsInHanded_of_change (C := Try.checked) own started (by kernel_rfl) Try.func4
    (ChangeSpec.witness6 (enc := enc) (C := Try.checked) false ⟨#[], #[(.agg (envC 0 0 (List.replicate 32 0) (List.replicate 32 0) 0 0 (.slice none 0 0)).toArray)], []⟩ 8 (by kernel_rfl) (by kernel_rfl) (by kernel_rfl) (by kernel_rfl)) ?_
  intro W base args ds gs before hval0 hW hcnd _
  have hval : ∀ (j : Nat) t v, Try.f4.params[j]? = some t → args[j]? = some v → Value.okWide Try.prog W .any base t v := hval0
  have hW' := hW
  obtain ⟨p, q, hA0, hV, rfl, hfz, hnd⟩ := hW
  have hA : DataW.TrodAll enc Try.prog W 0 (fun _ => true) true Try.f4.params.toList args.toList ds p := hA0
  rw [Try.params4] at hA hval
  obtain ⟨v0, vs0, d0, ds0, p0, q0, hargs, rfl, rfl, h0, r0⟩ := trodAll_cons hA
  obtain ⟨rfl, rfl, rfl⟩ := trodAll_nil r0
  obtain rfl : args = #[v0] := by cases args; simp_all
  obtain ⟨rfl, rfl⟩ := trodVars_none hV
  have k0 := h0
  have lt0 : ∀ x ∈ p0, x.block < W.heap.size := by obtain ⟨m, hm⟩ := k0; exact DataW.trod_lt m _ _ _ hm
  obtain ⟨l0, g0⟩ := open_env (hval 0 35 v0 rfl rfl) h0
  clear hA0 hval0
  refine (headSizes.walk W v0 l0 g0).mono fun e W' ⟨he, hK⟩ => ?_
  subst he
  have bel := hK.below
  exact ⟨_, rfl, _, _, _, [], _, [], hW', trodAll_mk1 (shut_bool Try.underlying4 _), (trodAll_cons_mk (Below.trod laidOut (by kernel_rfl) (of_decide_eq_true (by kernel_rfl)) k0 bel lt0) trodAll_mk0), rfl, bel.frame _, fun h => by cases h⟩
theorem over : Rows.headSizesRow.holds Try.pinned (OpenSpec.ofChange Rows.headSizesSpec) :=
  OpenClaim.holds_of_wide 4 Try.f4 rfl rfl rfl rfl rfl rfl rfl ⟨rfl, rfl, rfl, rfl, rfl⟩ rfl rfl rfl rfl rfl (by kernel_rfl) Try.func4 (by kernel_rfl)
    (of_decide_eq_true (by kernel_rfl)) (by unfold Func.isWrapper; first | (rw [if_pos (by decide +kernel)]; kernel_rfl) | (rw [if_neg (by decide +kernel)]; exact ⟨rfl, rfl⟩))
    (fun os started H enc _ => lifted os started H enc)
theorem proved : Rows.HeadSizesSaid := over
end headSizes
/-- The row. -/
theorem headSizes_holds : Rows.HeadSizesSaid := headSizes.proved
#print axioms headSizes_holds
end Go.Proofs.Ytpjjledbmfmbiaa
