/- A beginning of an envelope's bytes is too short; with a byte behind there is none: the statement HeadCut. No condition. -/
import Derived.Test.YtpjjledbmfmbiaaRows
import Derived.Test.YtpjjledbmfmbiaaA12c
namespace Go.Proofs.Ytpjjledbmfmbiaa
open Go.RowKit Go.PBYtpjjledbmfmbiaa
set_option linter.unusedVariables false
set_option linter.unusedSimpArgs false
set_option maxRecDepth 10000

theorem bodyR_cap {S : List Nat} {w0 w : World} {L : List Res} {T : TypeId} {b : List UInt8} {x : Option Addr × Nat} (H : St S w0 L w) (k : Nat) (hk : L[k]? = some (bodyR T b x)) : b.length ≤ x.2 := by
  obtain ⟨A, c, e, h, _⟩ := row_sl H k hk
  cases e
  exact h
theorem envX_len (X : EnvD) (hc : X.cm.length = 32) (hp : X.pub.length = 32) (x : Option Addr × Nat) : (envOf X x).length = 69 := envC_len hc hp
theorem envX_one (X : EnvD) (x : Option Addr × Nat) : ∀ u ∈ envOf X x, u.oneCell' = true := envC_one rfl
set_option maxHeartbeats 2000000 in
theorem cut_neg (X : EnvD) (A : Option Addr) (c : Nat) (hcm : X.cm.length = 32) (hp : X.pub.length = 32) (hc : X.body.length ≤ c) (fX : Fits (headC X.pub X.p X.q) kHead) (w : World) (hA : SlAt w A (bys X.body)) (k : Int) (hk : k < 0) : Calls Try.prog 7 #[.agg (envOf X (A, c)).toArray, .int .i64 k] w fun e w' => e = .returned (.bool true) ∧ Kept [] w w' := by
  have hF := envC_f (f := X.f) (t := X.t) (p := X.p) (q := X.q) (sl := .slice A X.body.length c) hcm hp
  have hE1 := fun w hs => henv_calls X A c hcm hp w hs
  have hE2 := fun w hs => renv_calls X A c hcm hp w hs
  have hl34 := headC_length hp X.p X.q
  unfold envOf at hE1 hE2 ⊢
  obtain ⟨h, hh⟩ : ∃ h, envC X.f X.t X.cm X.pub X.p X.q (.slice A X.body.length c) = h := ⟨_, rfl⟩
  unfold enCalls envOf at hE1 hE2
  simp only at hF hE1 hE2 ⊢
  rw [hh] at hF hE1 hE2 ⊢
  obtain ⟨h0, g0, g1, g2, g3, g4⟩ := hF
  refine enter (n := 68) (R := fun e L => e = .returned (.bool true)) [.agg h.toArray, .int .i64 k] Try.func7 rfl rfl rfl (St.refl w) ?_ (fun e w' L' h H => ⟨h, H.kept⟩)
  refine VC_seq ?_
  refine VC_region ?_
  refine l_boxA rfl rfl ?_
  intro b2
  refine vl_v (q_assign rfl) rfl ?_
  refine vl_nil ?_
  refine (th_n ?_)
  refine VC_seq ?_
  refine VC_region ?_
  refine vl_v (q_callV Try.func8 rfl rfl rfl (fun w1 H1 => awake12_calls w1)) rfl ?_
  refine vl_v (q_assign rfl) rfl ?_
  refine vl_nil ?_
  refine (th_n ?_)
  refine VC_seq ?_
  refine VC_seq ?_
  refine VC_region ?_
  refine vl_v (q_fldA fo35_4 (by decide) rfl rfl) rfl ?_
  refine vl_v (q_load 0 Try.underlying26 rfl rfl rfl g4) rfl ?_
  refine vl_v (q_lenS Try.underlying26 rfl) rfl ?_
  refine vl_v (q_gtr_n (q := 1000) Try.underlying3 rfl rfl) rfl ?_
  by_cases hs16 : 1000 < X.body.length
  · skip
    rw [show decide (1000 < X.body.length) = true from decide_eq_true hs16]
    refine vl_v (q_move rfl) rfl ?_
    refine vl_skip rfl rfl ?_
    refine vl_skip rfl rfl ?_
    first | (refine vl_v (q_pickT rfl rfl) rfl ?_) | (refine vl_v (q_pickF rfl rfl) rfl ?_)
    refine vl_nil ?_
    refine (th_n ?_)
    refine VC_yes (rfl) ?_
    refine VC_seq ?_
    refine VC_region ?_
    refine vl_v (q_move rfl) rfl ?_
    refine vl_v (q_assign rfl) rfl ?_
    refine vl_nil ?_
    refine (th_n ?_)
    refine VC_ret ?_
    refine (th_r ?_)
    refine ⟨_, res1 rfl rfl, ?_⟩
    exact rfl
  · skip
    rw [show decide (1000 < X.body.length) = false from decide_eq_false hs16]
    refine vl_v (q_move rfl) rfl ?_
    refine vl_vg rfl (q_move rfl) rfl ?_
    refine vl_vg rfl (q_true (q_lss_k Try.underlying3 rfl rfl) (decide_eq_true hk)) rfl ?_
    first | (refine vl_v (q_pickT rfl rfl) rfl ?_) | (refine vl_v (q_pickF rfl rfl) rfl ?_)
    refine vl_nil ?_
    refine (th_n ?_)
    refine VC_yes (rfl) ?_
    refine VC_seq ?_
    refine VC_region ?_
    refine vl_v (q_move rfl) rfl ?_
    refine vl_v (q_assign rfl) rfl ?_
    refine vl_nil ?_
    refine (th_n ?_)
    refine VC_ret ?_
    refine (th_r ?_)
    refine ⟨_, res1 rfl rfl, ?_⟩
    exact rfl
set_option maxHeartbeats 2000000 in
theorem cut_wrong (X : EnvD) (A : Option Addr) (c : Nat) (hcm : X.cm.length = 32) (hp : X.pub.length = 32) (hc : X.body.length ≤ c) (fX : Fits (headC X.pub X.p X.q) kHead) (w : World) (hA : SlAt w A (bys X.body)) (k : Nat) (hr : enR X = false) : Calls Try.prog 7 #[.agg (envOf X (A, c)).toArray, vN k] w fun e w' => e = .returned (.bool true) ∧ Kept [] w w' := by
  have hF := envC_f (f := X.f) (t := X.t) (p := X.p) (q := X.q) (sl := .slice A X.body.length c) hcm hp
  have hE1 := fun w hs => henv_calls X A c hcm hp w hs
  have hE2 := fun w hs => renv_calls X A c hcm hp w hs
  have hl34 := headC_length hp X.p X.q
  unfold envOf at hE1 hE2 ⊢
  obtain ⟨h, hh⟩ : ∃ h, envC X.f X.t X.cm X.pub X.p X.q (.slice A X.body.length c) = h := ⟨_, rfl⟩
  unfold enCalls envOf at hE1 hE2
  simp only at hF hE1 hE2 ⊢
  rw [hh] at hF hE1 hE2 ⊢
  obtain ⟨h0, g0, g1, g2, g3, g4⟩ := hF
  have k1 : enK X = 1 := if_neg (by rw [hr]; decide)
  have k2 : (enB X).length = 0 := by unfold enB; rw [if_neg (by rw [hr]; decide)]; rfl
  refine enter (n := 68) (R := fun e L => e = .returned (.bool true)) [.agg h.toArray, vN k] Try.func7 rfl rfl rfl (St.refl w) ?_ (fun e w' L' h H => ⟨h, H.kept⟩)
  refine VC_seq ?_
  refine VC_region ?_
  refine l_boxA rfl rfl ?_
  intro b2
  refine vl_v (q_assign rfl) rfl ?_
  refine vl_nil ?_
  refine (th_n ?_)
  refine VC_seq ?_
  refine VC_region ?_
  refine vl_v (q_callV Try.func8 rfl rfl rfl (fun w1 H1 => awake12_calls w1)) rfl ?_
  refine vl_v (q_assign rfl) rfl ?_
  refine vl_nil ?_
  refine (th_n ?_)
  refine VC_seq ?_
  refine VC_seq ?_
  refine VC_region ?_
  refine vl_v (q_fldA fo35_4 (by decide) rfl rfl) rfl ?_
  refine vl_v (q_load 0 Try.underlying26 rfl rfl rfl g4) rfl ?_
  refine vl_v (q_lenS Try.underlying26 rfl) rfl ?_
  refine vl_v (q_gtr_n (q := 1000) Try.underlying3 rfl rfl) rfl ?_
  by_cases hs16 : 1000 < X.body.length
  · skip
    rw [show decide (1000 < X.body.length) = true from decide_eq_true hs16]
    refine vl_v (q_move rfl) rfl ?_
    refine vl_skip rfl rfl ?_
    refine vl_skip rfl rfl ?_
    first | (refine vl_v (q_pickT rfl rfl) rfl ?_) | (refine vl_v (q_pickF rfl rfl) rfl ?_)
    refine vl_nil ?_
    refine (th_n ?_)
    refine VC_yes (rfl) ?_
    refine VC_seq ?_
    refine VC_region ?_
    refine vl_v (q_move rfl) rfl ?_
    refine vl_v (q_assign rfl) rfl ?_
    refine vl_nil ?_
    refine (th_n ?_)
    refine VC_ret ?_
    refine (th_r ?_)
    refine ⟨_, res1 rfl rfl, ?_⟩
    exact rfl
  · skip
    rw [show decide (1000 < X.body.length) = false from decide_eq_false hs16]
    refine vl_v (q_move rfl) rfl ?_
    refine vl_vg rfl (q_move rfl) rfl ?_
    refine vl_vg rfl (q_false (q_lss_n (q := 0) Try.underlying3 rfl rfl) (decide_eq_false (by omega))) rfl ?_
    first | (refine vl_v (q_pickT rfl rfl) rfl ?_) | (refine vl_v (q_pickF rfl rfl) rfl ?_)
    refine vl_nil ?_
    refine (th_n ?_)
    refine VC_no (rfl) ?_
    refine VC_skip ?_
    refine (th_n ?_)
    refine VC_seq ?_
    refine VC_region ?_
    refine vl_v (q_loads 0 Try.underlying35 rfl rfl rfl sz35 h0) rfl ?_
    refine l_callT Try.func13 rfl rfl rfl (fun w1 H1 => (hE1 w1 (Reads.old hA w1 H1)).mono fun e w' ⟨x, h1, h2⟩ => ⟨_, h1, h2⟩) rfl ?_
    intro A24 c24 hc24 hm24
    refine vl_v (q_move rfl) rfl ?_
    refine vl_v (q_ext rfl rfl) rfl ?_
    refine vl_v (q_ext rfl rfl) rfl ?_
    refine vl_v (q_assign rfl) rfl ?_
    refine vl_v (q_assign rfl) rfl ?_
    refine vl_nil ?_
    refine (th_n ?_)
    refine VC_seq ?_
    refine VC_seq ?_
    refine VC_region ?_
    refine vl_v (q_move rfl) rfl ?_
    refine vl_v (q_as (v := .bool true) (q_neq_n (q := 0) Try.underlying28 rfl rfl) (by rw [k1]; rfl)) rfl ?_
    refine vl_v (q_move rfl) rfl ?_
    refine vl_skip rfl rfl ?_
    refine vl_skip rfl rfl ?_
    refine vl_skip rfl rfl ?_
    first | (refine vl_v (q_pickT rfl rfl) rfl ?_) | (refine vl_v (q_pickF rfl rfl) rfl ?_)
    refine vl_nil ?_
    refine (th_n ?_)
    refine VC_yes (rfl) ?_
    refine VC_seq ?_
    refine VC_region ?_
    refine vl_v (q_move rfl) rfl ?_
    refine vl_v (q_move rfl) rfl ?_
    refine vl_vg rfl (q_move rfl) rfl ?_
    refine vl_vg rfl (q_lenS Try.underlying26 rfl) rfl ?_
    refine vl_vg rfl (q_true (q_eql_n (q := 0) Try.underlying3 rfl rfl) (decide_eq_true k2)) rfl ?_
    first | (refine vl_v (q_pickT rfl rfl) rfl ?_) | (refine vl_v (q_pickF rfl rfl) rfl ?_)
    refine vl_v (q_assign rfl) rfl ?_
    refine vl_nil ?_
    refine (th_n ?_)
    refine VC_ret ?_
    refine (th_r ?_)
    refine ⟨_, res1 rfl rfl, ?_⟩
    exact rfl
set_option maxHeartbeats 2000000 in
theorem cut_right (X : EnvD) (A : Option Addr) (c : Nat) (hcm : X.cm.length = 32) (hp : X.pub.length = 32) (hc : X.body.length ≤ c) (fX : Fits (headC X.pub X.p X.q) kHead) (w : World) (hA : SlAt w A (bys X.body)) (k : Nat) (hr : enR X = true) : Calls Try.prog 7 #[.agg (envOf X (A, c)).toArray, vN k] w fun e w' => e = .returned (.bool true) ∧ Kept [] w w' := by
  have hF := envC_f (f := X.f) (t := X.t) (p := X.p) (q := X.q) (sl := .slice A X.body.length c) hcm hp
  have hE1 := fun w hs => henv_calls X A c hcm hp w hs
  have hE2 := fun w hs => renv_calls X A c hcm hp w hs
  have hl34 := headC_length hp X.p X.q
  unfold envOf at hE1 hE2 ⊢
  obtain ⟨h, hh⟩ : ∃ h, envC X.f X.t X.cm X.pub X.p X.q (.slice A X.body.length c) = h := ⟨_, rfl⟩
  unfold enCalls envOf at hE1 hE2
  simp only at hF hE1 hE2 ⊢
  rw [hh] at hF hE1 hE2 ⊢
  obtain ⟨h0, g0, g1, g2, g3, g4⟩ := hF
  have k1 : enK X = 0 := if_pos hr
  have hB : enB X = envB X.f.toNat X.t.toNat X.cm X.pub X.p.toNat X.q.toNat X.body := if_pos hr
  have k2 : (enB X).length = 76 + X.body.length := by rw [hB]; exact envB_length hcm hp
  have hlt : k % (enB X).length < (enB X).length := Nat.mod_lt _ (by omega)
  have rc := re_cut hcm hp hr hlt
  have rm := re_more hcm hp hr 0
  have hR := fun (u : List UInt8) (x : Option Addr) (n c : Nat) hn hc w hs => readE_calls u x n c hn hc w hs
  have hl2 : k % (enB X).length = ((enB X).take (k % (enB X).length)).length := by simp; omega
  refine enter (n := 68) (R := fun e L => e = .returned (.bool true)) [.agg h.toArray, vN k] Try.func7 rfl rfl rfl (St.refl w) ?_ (fun e w' L' h H => ⟨h, H.kept⟩)
  refine VC_seq ?_
  refine VC_region ?_
  refine l_boxA rfl rfl ?_
  intro b2
  refine vl_v (q_assign rfl) rfl ?_
  refine vl_nil ?_
  refine (th_n ?_)
  refine VC_seq ?_
  refine VC_region ?_
  refine vl_v (q_callV Try.func8 rfl rfl rfl (fun w1 H1 => awake12_calls w1)) rfl ?_
  refine vl_v (q_assign rfl) rfl ?_
  refine vl_nil ?_
  refine (th_n ?_)
  refine VC_seq ?_
  refine VC_seq ?_
  refine VC_region ?_
  refine vl_v (q_fldA fo35_4 (by decide) rfl rfl) rfl ?_
  refine vl_v (q_load 0 Try.underlying26 rfl rfl rfl g4) rfl ?_
  refine vl_v (q_lenS Try.underlying26 rfl) rfl ?_
  refine vl_v (q_gtr_n (q := 1000) Try.underlying3 rfl rfl) rfl ?_
  by_cases hs16 : 1000 < X.body.length
  · skip
    rw [show decide (1000 < X.body.length) = true from decide_eq_true hs16]
    refine vl_v (q_move rfl) rfl ?_
    refine vl_skip rfl rfl ?_
    refine vl_skip rfl rfl ?_
    first | (refine vl_v (q_pickT rfl rfl) rfl ?_) | (refine vl_v (q_pickF rfl rfl) rfl ?_)
    refine vl_nil ?_
    refine (th_n ?_)
    refine VC_yes (rfl) ?_
    refine VC_seq ?_
    refine VC_region ?_
    refine vl_v (q_move rfl) rfl ?_
    refine vl_v (q_assign rfl) rfl ?_
    refine vl_nil ?_
    refine (th_n ?_)
    refine VC_ret ?_
    refine (th_r ?_)
    refine ⟨_, res1 rfl rfl, ?_⟩
    exact rfl
  · skip
    rw [show decide (1000 < X.body.length) = false from decide_eq_false hs16]
    refine vl_v (q_move rfl) rfl ?_
    refine vl_vg rfl (q_move rfl) rfl ?_
    refine vl_vg rfl (q_false (q_lss_n (q := 0) Try.underlying3 rfl rfl) (decide_eq_false (by omega))) rfl ?_
    first | (refine vl_v (q_pickT rfl rfl) rfl ?_) | (refine vl_v (q_pickF rfl rfl) rfl ?_)
    refine vl_nil ?_
    refine (th_n ?_)
    refine VC_no (rfl) ?_
    refine VC_skip ?_
    refine (th_n ?_)
    refine VC_seq ?_
    refine VC_region ?_
    refine vl_v (q_loads 0 Try.underlying35 rfl rfl rfl sz35 h0) rfl ?_
    refine l_callT Try.func13 rfl rfl rfl (fun w1 H1 => (hE1 w1 (Reads.old hA w1 H1)).mono fun e w' ⟨x, h1, h2⟩ => ⟨_, h1, h2⟩) rfl ?_
    intro A24 c24 hc24 hm24
    refine vl_v (q_move rfl) rfl ?_
    refine vl_v (q_ext rfl rfl) rfl ?_
    refine vl_v (q_ext rfl rfl) rfl ?_
    refine vl_v (q_assign rfl) rfl ?_
    refine vl_v (q_assign rfl) rfl ?_
    refine vl_nil ?_
    refine (th_n ?_)
    refine VC_seq ?_
    refine VC_seq ?_
    refine VC_region ?_
    refine vl_v (q_move rfl) rfl ?_
    refine vl_v (q_as (v := .bool false) (q_neq_n (q := 0) Try.underlying28 rfl rfl) (by rw [k1]; rfl)) rfl ?_
    refine vl_v (q_move rfl) rfl ?_
    refine vl_vg rfl (q_move rfl) rfl ?_
    refine vl_vg rfl (q_lenS Try.underlying26 rfl) rfl ?_
    refine vl_vg rfl (q_false (q_eql_n (q := 0) Try.underlying3 rfl rfl) (decide_eq_false (by omega))) rfl ?_
    first | (refine vl_v (q_pickT rfl rfl) rfl ?_) | (refine vl_v (q_pickF rfl rfl) rfl ?_)
    refine vl_nil ?_
    refine (th_n ?_)
    refine VC_no (rfl) ?_
    refine VC_skip ?_
    refine (th_n ?_)
    refine VC_seq ?_
    refine VC_region ?_
    refine vl_v (q_move rfl) rfl ?_
    refine vl_v (q_move rfl) rfl ?_
    refine vl_v (q_move rfl) rfl ?_
    refine vl_v (q_lenS Try.underlying26 rfl) rfl ?_
    refine vl_v (q_rem_n rfl rfl (by omega)) rfl ?_
    refine vl_v (q_slcS0 Try.underlying26 sz5 rfl ⟨_, rfl⟩ rfl (.inl rfl) (by omega) (by omega)) rfl ?_
    refine l_callG Try.func15 rfl rfl rfl (fun w1 H1 => hR ((enB X).take (k % (enB X).length)) _ _ _ hl2 (by omega) w1 (at_take (Reads.row 0 rfl w1 H1))) rfl ?_
    intro x47
    refine vl_v (q_move rfl) rfl ?_
    refine vl_v (q_ext rfl rfl) rfl ?_
    refine vl_v (q_ext rfl rfl) rfl ?_
    refine l_allocA zr35 rfl ?_
    intro b8
    refine l_storeA 0 rfl rfl rfl sz35 (envX_len _ (reX_cm ((enB X).take (k % (enB X).length))) (reX_pub ((enB X).take (k % (enB X).length))) _) (envX_one _ _) (by rw [zEnvC_eq]; exact zEnvC_length) ?_
    simp only [List.set_cons_zero, List.set_cons_succ]
    refine vl_v (q_assign rfl) rfl ?_
    refine vl_nil ?_
    refine (th_n ?_)
    refine VC_seq ?_
    refine VC_region ?_
    refine l_litA (cs := bys []) Try.underlying26 in5 (by decide) rfl rfl rfl rfl (by first | (with_reducible first | exact bys_one _ | exact u32s_one _ | exact u64s_one _ | exact i64s_one _ | exact n64s_one _ | assumption) | exact bys_one _ | exact u32s_one _ | exact u64s_one _ | exact i64s_one _ | exact one_all rfl | (refine app_one ?_ ?_ <;> first | exact bys_one _ | exact one_all rfl | (simp; done))) rfl rfl ?_
    intro b51
    refine vl_v (q_move rfl) rfl ?_
    refine l_append 0 rfl rfl rfl Try.underlying26 Try.underlying26 in5 rfl (by decide) (Reads.row 3 rfl) (by first | assumption | omega | (simp only [bys_length]; omega) | rfl) (by first | (with_reducible first | exact bys_one _ | exact u32s_one _ | exact u64s_one _ | exact i64s_one _ | exact n64s_one _ | assumption) | exact bys_one _ | exact u32s_one _ | exact u64s_one _ | exact i64s_one _ | exact one_all rfl | (refine app_one ?_ ?_ <;> first | exact bys_one _ | exact one_all rfl | (simp; done))) (by first | assumption | omega | (simp only [bys_length]; omega) | rfl) (by first | assumption | omega | (simp only [bys_length]; omega) | rfl) rfl ?_
    intro A53 c53 hc53
    simp only [List.set_cons_zero, List.set_cons_succ, ← bys_append, ← u32s_append, ← u64s_append, ← i64s_append, List.nil_append, Nat.zero_add]
    refine l_litA (cs := bys [UInt8.ofNat 0]) Try.underlying26 in5 (by decide) rfl rfl rfl rfl (by first | (with_reducible first | exact bys_one _ | exact u32s_one _ | exact u64s_one _ | exact i64s_one _ | exact n64s_one _ | assumption) | exact bys_one _ | exact u32s_one _ | exact u64s_one _ | exact i64s_one _ | exact one_all rfl | (refine app_one ?_ ?_ <;> first | exact bys_one _ | exact one_all rfl | (simp; done))) rfl rfl ?_
    intro b54
    refine l_append 1 rfl rfl rfl Try.underlying26 Try.underlying26 in5 rfl (by decide) (Reads.row 0 rfl) (by first | assumption | omega | (simp only [bys_length]; omega) | rfl) (by first | (with_reducible first | exact bys_one _ | exact u32s_one _ | exact u64s_one _ | exact i64s_one _ | exact n64s_one _ | assumption) | exact bys_one _ | exact u32s_one _ | exact u64s_one _ | exact i64s_one _ | exact one_all rfl | (refine app_one ?_ ?_ <;> first | exact bys_one _ | exact one_all rfl | (simp; done))) (by first | assumption | omega | (simp only [bys_length]; omega) | rfl) (by first | assumption | omega | (simp only [bys_length]; omega) | rfl) rfl ?_
    intro A55 c55 hc55
    simp only [List.set_cons_zero, List.set_cons_succ, ← bys_append, ← u32s_append, ← u64s_append, ← i64s_append, List.nil_append, Nat.zero_add]
    refine l_callG Try.func15 rfl rfl rfl (fun w1 H1 => hR (enB X ++ [0]) _ _ _ (by simp) (by omega) w1 (Reads.row 1 rfl w1 H1)) rfl ?_
    intro x56
    refine vl_v (q_move rfl) rfl ?_
    refine vl_v (q_ext rfl rfl) rfl ?_
    refine vl_v (q_ext rfl rfl) rfl ?_
    refine l_allocA zr35 rfl ?_
    intro b10
    refine l_storeA 0 rfl rfl rfl sz35 (envX_len _ (reX_cm (enB X ++ [0])) (reX_pub (enB X ++ [0])) _) (envX_one _ _) (by rw [zEnvC_eq]; exact zEnvC_length) ?_
    simp only [List.set_cons_zero, List.set_cons_succ]
    refine vl_v (q_assign rfl) rfl ?_
    refine vl_nil ?_
    refine (th_n ?_)
    refine VC_seq ?_
    refine VC_region ?_
    refine vl_v (q_move rfl) rfl ?_
    refine vl_v (q_move rfl) rfl ?_
    refine vl_vg rfl (q_move rfl) rfl ?_
    refine vl_vg rfl (q_true (q_eql_n (q := 3) Try.underlying28 rfl rfl) (decide_eq_true rc)) rfl ?_
    first | (refine vl_v (q_pickT rfl rfl) rfl ?_) | (refine vl_v (q_pickF rfl rfl) rfl ?_)
    refine vl_v (q_move rfl) rfl ?_
    refine vl_vg rfl (q_move rfl) rfl ?_
    refine vl_vg rfl (q_true (q_eql_n (q := 2) Try.underlying28 rfl rfl) (decide_eq_true rm)) rfl ?_
    first | (refine vl_v (q_pickT rfl rfl) rfl ?_) | (refine vl_v (q_pickF rfl rfl) rfl ?_)
    refine vl_v (q_assign rfl) rfl ?_
    refine vl_nil ?_
    refine (th_n ?_)
    refine VC_ret ?_
    refine ⟨_, res1 rfl rfl, ?_⟩
    exact rfl
theorem headCut.walk (w : World) (v0 : Value) (x : EnvD) (h0 : EnvW w v0 x) (n : Int) (h1 : (Lit.int .i64 n).wf = true) :
    Calls Try.prog 7 #[v0, .int .i64 n] w fun e w' => e = .returned (.bool true) ∧ Kept [] w w' := by
  obtain ⟨⟨A, m, c, rfl, hcm, hp, rfl, hc, _, hA⟩, fX⟩ := h0
  by_cases hn : n < 0
  · exact cut_neg x A c hcm hp hc fX w hA n hn
  obtain ⟨k, rfl⟩ : ∃ k : Nat, n = (k : Int) := ⟨n.toNat, by omega⟩
  cases hr : enR x with
  | true => exact cut_right x A c hcm hp hc fX w hA k hr
  | false => exact cut_wrong x A c hcm hp hc fX w hA k hr

namespace headCut
open Go.ChangeShapes Go.WideShapes Go.ChangeAt Go.RowKit
theorem own : ownKnob Try.prog.godebug = none := by kernel_rfl
theorem laidOut : laidOutB Try.prog = true := by kernel_rfl
set_option maxRecDepth 100000 in
theorem lifted (os : Os) (started : os.Started) (H : Type) (enc : TypeId × Value → H) :
    ReturnsInHanded {} Try.checked os 7 .any (Rows.headCutSpec.pre6 enc Try.prog Try.f7 Rows.headCutRow.domain false) (Rows.headCutSpec.post enc Try.prog Try.f7 false true false false) := by
  refine returnsInHanded_of_change (C := Try.checked) own started (by kernel_rfl) Try.func7
    (ChangeSpec.witness6 (enc := enc) (C := Try.checked) false ⟨#[], #[(.agg (envC 0 0 (List.replicate 32 0) (List.replicate 32 0) 0 0 (.slice none 0 0)).toArray), .int .i64 0], []⟩ 8 (by kernel_rfl) (by kernel_rfl) (by kernel_rfl) (by kernel_rfl)) ?_
  intro W base args ds gs before hval0 hW hcnd _
  have hval : ∀ (j : Nat) t v, Try.f7.params[j]? = some t → args[j]? = some v → Value.okWide Try.prog W .any base t v := hval0
  have hW' := hW
  obtain ⟨p, q, hA0, hV, rfl, hfz, hnd⟩ := hW
  have hA : DataW.TrodAll enc Try.prog W 0 (fun _ => true) true Try.f7.params.toList args.toList ds p := hA0
  rw [Try.params7] at hA hval
  obtain ⟨v0, vs0, d0, ds0, p0, q0, hargs, rfl, rfl, h0, r0⟩ := trodAll_cons hA
  obtain ⟨v1, vs1, d1, ds1, p1, q1, rfl, rfl, rfl, h1, r1⟩ := trodAll_cons r0
  obtain ⟨rfl, rfl, rfl⟩ := trodAll_nil r1
  obtain rfl : args = #[v0, v1] := by cases args; simp_all
  obtain ⟨rfl, rfl⟩ := trodVars_none hV
  have k0 := h0
  have lt0 : ∀ x ∈ p0, x.block < W.heap.size := by obtain ⟨m, hm⟩ := k0; exact DataW.trod_lt m _ _ _ hm
  have k1 := h1
  have lt1 : ∀ x ∈ p1, x.block < W.heap.size := by obtain ⟨m, hm⟩ := k1; exact DataW.trod_lt m _ _ _ hm
  obtain ⟨l0, g0⟩ := open_envW (hval 0 35 v0 rfl rfl) h0
  obtain ⟨n1, rfl, _, _, g1⟩ := open_int Try.underlying3 (hval 1 3 v1 rfl rfl) h1
  clear hA0 hval0
  refine (headCut.walk W v0 l0 g0 n1 g1).mono fun e W' ⟨he, hK⟩ => ?_
  subst he
  have bel := hK.below
  exact ⟨_, rfl, _, _, _, [], _, [], hW', trodAll_mk1 (shut_bool Try.underlying4 _), (trodAll_cons_mk (Below.trod laidOut (by kernel_rfl) (of_decide_eq_true (by kernel_rfl)) k0 bel lt0) (trodAll_cons_mk (Below.trod laidOut (by kernel_rfl) (of_decide_eq_true (by kernel_rfl)) k1 bel lt1) trodAll_mk0)), rfl, bel.frame _, fun h => by cases h⟩
theorem over : Rows.headCutRow.holds Try.pinned (OpenSpec.ofChange Rows.headCutSpec) :=
  OpenClaim.holds_of_wide 7 Try.f7 rfl rfl rfl rfl rfl rfl rfl ⟨rfl, rfl, rfl, rfl, rfl⟩ rfl rfl rfl rfl rfl (by kernel_rfl) Try.func7 (by kernel_rfl)
    (of_decide_eq_true (by kernel_rfl)) (by unfold Func.isWrapper; first | (rw [if_pos (by decide +kernel)]; kernel_rfl) | (rw [if_neg (by decide +kernel)]; exact ⟨rfl, rfl⟩))
    (fun os started H enc _ => lifted os started H enc)
theorem proved : Rows.HeadCutSaid := over
end headCut
/-- The row. -/
theorem headCut_holds : Rows.HeadCutSaid := headCut.proved
#print axioms headCut_holds
end Go.Proofs.Ytpjjledbmfmbiaa
