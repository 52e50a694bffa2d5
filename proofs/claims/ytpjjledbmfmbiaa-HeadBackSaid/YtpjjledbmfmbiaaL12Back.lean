/- Heads and envelopes are read as they were; what is read has just these bytes: the statement HeadBack. No condition. -/
import Derived.Test.YtpjjledbmfmbiaaRows
import Derived.Test.YtpjjledbmfmbiaaA12c
namespace Go.Proofs.Ytpjjledbmfmbiaa
open Go.RowKit Go.PBYtpjjledbmfmbiaa
set_option linter.unusedVariables false
set_option linter.unusedSimpArgs false
set_option maxRecDepth 10000

theorem bodyR_cap {S : List Nat} {w0 w : World} {L : List Res} {T : TypeId} {b : List UInt8} {x : Option Addr × Nat} (H : St S w0 L w) (k : Nat) (hk : L[k]? = some (bodyR T b x)) : b.length ≤ x.2 := by
  obtain ⟨A, c, e, h, _⟩ := row_sl H k hk
  cases e
  exact h
theorem envX_len (X : EnvD) (hc : X.cm.length = 32) (hp : X.pub.length = 32) (x : Option Addr × Nat) : (envOf X x).length = 69 := envC_len hc hp
theorem envX_one (X : EnvD) (x : Option Addr × Nat) : ∀ u ∈ envOf X x, u.oneCell' = true := envC_one rfl
set_option maxHeartbeats 4000000 in
theorem back_all (X : EnvD) (A : Option Addr) (c : Nat) (hcm : X.cm.length = 32) (hp : X.pub.length = 32) (hc : X.body.length ≤ c) (fX : Fits (headC X.pub X.p X.q) kHead) (w : World) (hA : SlAt w A (bys X.body)) (l : List UInt8) (B : Option Addr) (k : Nat) (hk : l.length ≤ k) (hB : SlAt w B (bys l))  : Calls Try.prog 6 #[.agg (envOf X (A, c)).toArray, .slice B l.length k] w fun e w' => e = .returned (.bool true) ∧ Kept [] w w' := by
  have hF := envC_f (f := X.f) (t := X.t) (p := X.p) (q := X.q) (sl := .slice A X.body.length c) hcm hp
  have hE1 := fun w hs => henv_calls X A c hcm hp w hs
  have hE2 := fun w hs => renv_calls X A c hcm hp w hs
  have hl34 := headC_length hp X.p X.q
  unfold envOf at hE1 hE2 ⊢
  obtain ⟨h, hh⟩ : ∃ h, envC X.f X.t X.cm X.pub X.p X.q (.slice A X.body.length c) = h := ⟨_, rfl⟩
  unfold enCalls envOf at hE1 hE2
  simp only at hF hE1 hE2 ⊢
  rw [hh] at hF hE1 hE2 ⊢
  obtain ⟨h0, g0, g1, g2, g3, g4⟩ := hF
  have hb : enK X = 0 → reE (enB X) = 0 ∧ reX (enB X) = X := fun h => re_en hcm hp (by unfold enK at h; cases hr : enR X with | true => rfl | false => rw [hr] at h; cases h)
  have hd := fun h => hd_rd (X := X) hp h
  have er := fun h => en_re (b := l) h
  have hR0 := fun (x : Option Addr × Nat) (n : Nat) hn hc w hs => readE_calls (enB X) x.1 n x.2 hn hc w hs
  have hR1 := fun w hs => readE_calls l B l.length k rfl hk w hs
  have hE3 := fun (x : Option Addr × Nat) w hs => henv_calls (reX l) x.1 x.2 (reX_cm l) (reX_pub l) w hs
  have hcm2 := reX_cm l
  have hp2 := reX_pub l
  have hH := fun w => hbytes_calls X hp w
  have hS := fun (x : Option Addr × Nat) w h1 h2 => same_calls (reX (enB X)) X x.1 A x.2 c (reX_cm _) (reX_pub _) hcm hp (reX_fits _) fX w h1 h2
  unfold envOf at hS
  simp only at hS
  rw [hh] at hS
  refine enter (n := 102) (R := fun e L => e = .returned (.bool true)) [.agg h.toArray, .slice B l.length k] Try.func6 rfl rfl rfl (St.refl w) ?_ (fun e w' L' h H => ⟨h, H.kept⟩)
  refine VC_seq ?_
  refine VC_region ?_
  refine l_boxA rfl rfl ?_
  intro b2
  refine vl_v (q_assign rfl) rfl ?_
  refine vl_nil ?_
  refine (th_n ?_)
  refine VC_seq ?_
  refine VC_region ?_
  refine vl_v (q_callV Try.func8 rfl rfl rfl (fun w1 H1 => awake12_calls w1)) rfl ?_
  refine vl_v (q_assign rfl) rfl ?_
  refine vl_nil ?_
  refine (th_n ?_)
  refine VC_seq ?_
  refine VC_seq ?_
  refine VC_region ?_
  refine vl_v (q_fldA fo35_4 (by decide) rfl rfl) rfl ?_
  refine vl_v (q_load 0 Try.underlying26 rfl rfl rfl g4) rfl ?_
  refine vl_v (q_lenS Try.underlying26 rfl) rfl ?_
  refine vl_v (q_gtr_n (q := 1000) Try.underlying3 rfl rfl) rfl ?_
  by_cases hs23 : 1000 < X.body.length
  · skip
    rw [show decide (1000 < X.body.length) = true from decide_eq_true hs23]
    refine vl_v (q_move rfl) rfl ?_
    refine vl_skip rfl rfl ?_
    refine vl_skip rfl rfl ?_
    refine vl_skip rfl rfl ?_
    first | (refine vl_v (q_pickT rfl rfl) rfl ?_) | (refine vl_v (q_pickF rfl rfl) rfl ?_)
    refine vl_nil ?_
    refine (th_n ?_)
    refine VC_yes (rfl) ?_
    refine VC_seq ?_
    refine VC_region ?_
    refine vl_v (q_move rfl) rfl ?_
    refine vl_v (q_assign rfl) rfl ?_
    refine vl_nil ?_
    refine (th_n ?_)
    refine VC_ret ?_
    refine (th_r ?_)
    refine ⟨_, res1 rfl rfl, ?_⟩
    exact rfl
  · skip
    rw [show decide (1000 < X.body.length) = false from decide_eq_false hs23]
    refine vl_v (q_move rfl) rfl ?_
    refine vl_vg rfl (q_move rfl) rfl ?_
    refine vl_vg rfl (q_lenS Try.underlying26 rfl) rfl ?_
    first | (refine vl_vg rfl (q_gtr_n (q := 1000) Try.underlying3 rfl rfl) rfl ?_) | (refine vl_vg rfl (q_gtr_k Try.underlying3 rfl rfl) rfl ?_)
    first | (refine vl_v (q_pickT rfl rfl) rfl ?_) | (refine vl_v (q_pickF rfl rfl) rfl ?_)
    refine vl_nil ?_
    refine (th_n ?_)
    refine VC_cond rfl (fun ht28 => ?_) (fun ht28 => ?_)
    · skip
      have ht28 := of_decide_eq_true ht28
      refine VC_seq ?_
      refine VC_region ?_
      refine vl_v (q_move rfl) rfl ?_
      refine vl_v (q_assign rfl) rfl ?_
      refine vl_nil ?_
      refine (th_n ?_)
      refine VC_ret ?_
      refine (th_r ?_)
      refine ⟨_, res1 rfl rfl, ?_⟩
      exact rfl
    · skip
      have ht28 := of_decide_eq_false ht28
      refine VC_skip ?_
      refine (th_n ?_)
      refine VC_seq ?_
      refine VC_region ?_
      refine vl_v (q_loads 0 Try.underlying35 rfl rfl rfl sz35 h0) rfl ?_
      refine l_callT Try.func13 rfl rfl rfl (fun w1 H1 => (hE1 w1 (Reads.old hA w1 H1)).mono fun e w' ⟨x, h1, h2⟩ => ⟨_, h1, h2⟩) rfl ?_
      intro A32 c32 hc32 hm32
      refine vl_v (q_move rfl) rfl ?_
      refine vl_v (q_ext rfl rfl) rfl ?_
      refine vl_v (q_ext rfl rfl) rfl ?_
      refine vl_v (q_assign rfl) rfl ?_
      refine vl_v (q_assign rfl) rfl ?_
      refine vl_nil ?_
      refine (th_n ?_)
      refine VC_seq ?_
      refine VC_region ?_
      refine vl_v (q_move rfl) rfl ?_
      refine l_callG Try.func15 rfl rfl rfl (fun w1 H1 => hR0 (A32, c32) _ rfl (by omega) w1 (Reads.row 0 rfl w1 H1)) rfl ?_
      intro x37
      refine vl_v (q_move rfl) rfl ?_
      refine vl_v (q_ext rfl rfl) rfl ?_
      refine vl_v (q_ext rfl rfl) rfl ?_
      refine l_allocA zr35 rfl ?_
      intro b8
      refine l_storeA 0 rfl rfl rfl sz35 (envX_len _ (reX_cm (enB X)) (reX_pub (enB X)) _) (envX_one _ _) (by rw [zEnvC_eq]; exact zEnvC_length) ?_
      simp only [List.set_cons_zero, List.set_cons_succ]
      refine vl_v (q_assign rfl) rfl ?_
      refine vl_nil ?_
      refine (th_n ?_)
      refine VC_seq ?_
      refine VC_region ?_
      refine vl_v (q_loads 0 Try.underlying35 rfl rfl rfl sz35 (envX_len _ (reX_cm _) (reX_pub _) _)) rfl ?_
      refine vl_v (q_loads 3 Try.underlying35 rfl rfl rfl sz35 h0) rfl ?_
      refine vl_v (q_callV Try.func17 rfl rfl rfl (fun w1 H1 => hS x37 w1 (Reads.row 1 rfl w1 H1) (Reads.old hA w1 H1))) rfl ?_
      refine vl_v (q_assign rfl) rfl ?_
      refine vl_nil ?_
      refine (th_n ?_)
      refine VC_seq ?_
      refine VC_seq ?_
      refine VC_region ?_
      refine vl_v (q_move rfl) rfl ?_
      refine vl_v (q_eql_n (q := 0) Try.underlying28 rfl rfl) rfl ?_
      by_cases hs44 : enK X = 0
      · skip
        rw [show decide (enK X = 0) = true from decide_eq_true hs44]
        refine vl_v (q_move rfl) rfl ?_
        refine vl_vg rfl (q_move rfl) rfl ?_
        refine vl_vg rfl (q_as (v := .bool false) (q_neq_n (q := 0) Try.underlying28 rfl rfl) (by rw [(hb hs44).1]; rfl)) rfl ?_
        refine vl_vg rfl (q_move rfl) rfl ?_
        refine vl_vg rfl (q_move rfl) rfl ?_
        refine vl_vg rfl (q_as (v := .bool false) (q_not rfl) (by rw [(hb hs44).2, sameEB_refl]; rfl)) rfl ?_
        first | (refine vl_vg rfl (q_pickT rfl rfl) rfl ?_) | (refine vl_vg rfl (q_pickF rfl rfl) rfl ?_)
        first | (refine vl_v (q_pickT rfl rfl) rfl ?_) | (refine vl_v (q_pickF rfl rfl) rfl ?_)
        refine vl_nil ?_
        refine (th_n ?_)
        refine VC_no (rfl) ?_
        refine VC_skip ?_
        refine (th_n ?_)
        refine VC_seq ?_
        refine VC_region ?_
        refine vl_v (q_fldA fo35_3 (by decide) rfl rfl) rfl ?_
        refine vl_v (q_loadsAt 3 Try.underlying25 rfl rfl rfl sz25 g3 hl34) rfl ?_
        refine l_callT Try.func9 rfl rfl rfl (fun w1 H1 => (hH w1).mono fun e w' ⟨x, h1, h2⟩ => ⟨_, h1, h2⟩) rfl ?_
        intro A56 c56 hc56 hm56
        refine vl_v (q_move rfl) rfl ?_
        refine vl_v (q_ext rfl rfl) rfl ?_
        refine vl_v (q_ext rfl rfl) rfl ?_
        refine vl_v (q_assign rfl) rfl ?_
        refine vl_v (q_assign rfl) rfl ?_
        refine vl_nil ?_
        refine (th_n ?_)
        refine VC_seq ?_
        refine VC_region ?_
        refine vl_v (q_move rfl) rfl ?_
        refine vl_v (q_callV Try.func11 rfl rfl rfl (fun w1 H1 => read_calls (hdB X) A56 _ c56 rfl (by omega) w1 (Reads.row 0 rfl w1 H1))) rfl ?_
        refine vl_v (q_move rfl) rfl ?_
        refine vl_v (q_ext rfl rfl) rfl ?_
        refine vl_v (q_ext rfl rfl) rfl ?_
        refine l_allocA zr25 rfl ?_
        intro b13
        refine l_storeA 0 rfl rfl rfl sz25 (rdC_length _) (rdC_one _) (by rw [zHeadC_eq]; exact zHeadC_length) ?_
        simp only [List.set_cons_zero, List.set_cons_succ]
        refine vl_v (q_assign rfl) rfl ?_
        refine vl_nil ?_
        refine (th_n ?_)
        refine VC_seq ?_
        refine VC_seq ?_
        refine VC_region ?_
        refine vl_v (q_move rfl) rfl ?_
        refine vl_v (q_eql_n (q := 0) Try.underlying28 rfl rfl) rfl ?_
        by_cases hs65 : hdK X = 0
        · skip
          rw [show decide (hdK X = 0) = true from decide_eq_true hs65]
          refine vl_v (q_move rfl) rfl ?_
          refine vl_vg rfl (q_move rfl) rfl ?_
          refine vl_vg rfl (q_as (v := .bool false) (q_neq_n (q := 0) Try.underlying28 rfl rfl) (by rw [(hd hs65).1]; rfl)) rfl ?_
          refine vl_vg rfl (q_move rfl) rfl ?_
          refine vl_vg rfl (q_loads 0 Try.underlying25 rfl rfl rfl sz25 (rdC_length _)) rfl ?_
          refine vl_vg rfl (q_fldA fo35_3 (by decide) rfl rfl) rfl ?_
          refine vl_vg rfl (q_loadsAt 5 Try.underlying25 rfl rfl rfl sz25 g3 hl34) rfl ?_
          refine vl_vg rfl (q_as (v := .bool false) (q_neR flatHead rfl rfl (rdC_fits _) fX (r := true) ⟨fun _ => (hd hs65).2, fun _ => rfl⟩) rfl) rfl ?_
          first | (refine vl_vg rfl (q_pickT rfl rfl) rfl ?_) | (refine vl_vg rfl (q_pickF rfl rfl) rfl ?_)
          first | (refine vl_v (q_pickT rfl rfl) rfl ?_) | (refine vl_v (q_pickF rfl rfl) rfl ?_)
          refine vl_nil ?_
          refine (th_n ?_)
          refine VC_no (rfl) ?_
          refine VC_skip ?_
          refine (th_n ?_)
          refine VC_seq ?_
          refine VC_region ?_
          refine vl_v (q_move rfl) rfl ?_
          refine l_callG Try.func15 rfl rfl rfl (fun w1 H1 => hR1 w1 (Reads.old hB w1 H1)) rfl ?_
          intro x78
          refine vl_v (q_move rfl) rfl ?_
          refine vl_v (q_ext rfl rfl) rfl ?_
          refine vl_v (q_ext rfl rfl) rfl ?_
          refine l_allocA zr35 rfl ?_
          intro b15
          refine l_storeA 0 rfl rfl rfl sz35 (envX_len _ (reX_cm l) (reX_pub l) _) (envX_one _ _) (by rw [zEnvC_eq]; exact zEnvC_length) ?_
          simp only [List.set_cons_zero, List.set_cons_succ]
          refine vl_v (q_assign rfl) rfl ?_
          refine vl_nil ?_
          refine (th_n ?_)
          refine VC_seq ?_
          refine VC_region ?_
          refine vl_v (q_loads 0 Try.underlying35 rfl rfl rfl sz35 (envX_len _ hcm2 hp2 _)) rfl ?_
          refine l_callT Try.func13 rfl rfl rfl (fun w1 H1 => (hE3 x78 w1 (Reads.row 1 rfl w1 H1)).mono fun e w' ⟨x, h1, h2⟩ => ⟨_, h1, h2⟩) rfl ?_
          intro A83 c83 hc83 hm83
          refine vl_v (q_move rfl) rfl ?_
          refine vl_v (q_ext rfl rfl) rfl ?_
          refine vl_v (q_ext rfl rfl) rfl ?_
          refine vl_v (q_assign rfl) rfl ?_
          refine vl_v (q_assign rfl) rfl ?_
          refine vl_nil ?_
          refine (th_n ?_)
          refine VC_seq ?_
          refine VC_region ?_
          refine vl_v (q_move rfl) rfl ?_
          refine vl_v (q_move rfl) rfl ?_
          refine vl_vg rfl (q_move rfl) rfl ?_
          refine vl_vg rfl (q_as (v := .bool (decide (¬ reE l = 0))) (q_neq_n (q := 0) Try.underlying28 rfl rfl) (by simp)) rfl ?_
          by_cases hs89 : ¬ reE l = 0
          · skip
            rw [show decide (¬ reE l = 0) = true from decide_eq_true hs89]
            refine vl_vg rfl (q_move rfl) rfl ?_
            refine vl_skip rfl rfl ?_
            refine vl_skip rfl rfl ?_
            refine vl_skip rfl rfl ?_
            refine vl_skip rfl rfl ?_
            refine vl_skip rfl rfl ?_
            refine vl_skip rfl rfl ?_
            refine vl_skip rfl rfl ?_
            refine vl_skip rfl rfl ?_
            refine vl_skip rfl rfl ?_
            first | (refine vl_vg rfl (q_pickT rfl rfl) rfl ?_) | (refine vl_vg rfl (q_pickF rfl rfl) rfl ?_)
            first | (refine vl_v (q_pickT rfl rfl) rfl ?_) | (refine vl_v (q_pickF rfl rfl) rfl ?_)
            refine vl_v (q_assign rfl) rfl ?_
            refine vl_nil ?_
            refine (th_n ?_)
            refine VC_ret ?_
            refine ⟨_, res1 rfl rfl, ?_⟩
            exact rfl
          · skip
            rw [show decide (¬ reE l = 0) = false from decide_eq_false hs89]
            refine vl_vg rfl (q_move rfl) rfl ?_
            refine vl_vg rfl (q_move rfl) rfl ?_
            refine vl_vg rfl (q_true (q_eql_n (q := 0) Try.underlying28 rfl rfl) (decide_eq_true (er (Decidable.not_not.1 hs89)).1)) rfl ?_
            refine vl_vg rfl (q_move rfl) rfl ?_
            refine vl_vg rfl (q_move rfl) rfl ?_
            refine vl_vg rfl (q_str Try.underlying26 Try.underlying5 Try.underlying9 rfl (Reads.row 0 rfl) (by first | assumption | omega | (simp only [bys_length]; omega))) rfl ?_
            refine vl_vg rfl (q_move rfl) rfl ?_
            refine vl_vg rfl (q_str (l := l) Try.underlying26 Try.underlying5 Try.underlying9 rfl (Reads.old hB) rfl) rfl ?_
            refine vl_vg rfl (q_true (q_eqStr Try.underlying9 rfl rfl) (decide_eq_true (er (Decidable.not_not.1 hs89)).2)) rfl ?_
            first | (refine vl_vg rfl (q_pickT rfl rfl) rfl ?_) | (refine vl_vg rfl (q_pickF rfl rfl) rfl ?_)
            first | (refine vl_vg rfl (q_pickT rfl rfl) rfl ?_) | (refine vl_vg rfl (q_pickF rfl rfl) rfl ?_)
            first | (refine vl_v (q_pickT rfl rfl) rfl ?_) | (refine vl_v (q_pickF rfl rfl) rfl ?_)
            refine vl_v (q_assign rfl) rfl ?_
            refine vl_nil ?_
            refine (th_n ?_)
            refine VC_ret ?_
            refine ⟨_, res1 rfl rfl, ?_⟩
            exact rfl
        · skip
          rw [show decide (hdK X = 0) = false from decide_eq_false hs65]
          refine vl_v (q_move rfl) rfl ?_
          refine vl_skip rfl rfl ?_
          refine vl_skip rfl rfl ?_
          refine vl_skip rfl rfl ?_
          refine vl_skip rfl rfl ?_
          refine vl_skip rfl rfl ?_
          refine vl_skip rfl rfl ?_
          refine vl_skip rfl rfl ?_
          refine vl_skip rfl rfl ?_
          first | (refine vl_v (q_pickT rfl rfl) rfl ?_) | (refine vl_v (q_pickF rfl rfl) rfl ?_)
          refine vl_nil ?_
          refine (th_n ?_)
          refine VC_no (rfl) ?_
          refine VC_skip ?_
          refine (th_n ?_)
          refine VC_seq ?_
          refine VC_region ?_
          refine vl_v (q_move rfl) rfl ?_
          refine l_callG Try.func15 rfl rfl rfl (fun w1 H1 => hR1 w1 (Reads.old hB w1 H1)) rfl ?_
          intro x78
          refine vl_v (q_move rfl) rfl ?_
          refine vl_v (q_ext rfl rfl) rfl ?_
          refine vl_v (q_ext rfl rfl) rfl ?_
          refine l_allocA zr35 rfl ?_
          intro b15
          refine l_storeA 0 rfl rfl rfl sz35 (envX_len _ (reX_cm l) (reX_pub l) _) (envX_one _ _) (by rw [zEnvC_eq]; exact zEnvC_length) ?_
          simp only [List.set_cons_zero, List.set_cons_succ]
          refine vl_v (q_assign rfl) rfl ?_
          refine vl_nil ?_
          refine (th_n ?_)
          refine VC_seq ?_
          refine VC_region ?_
          refine vl_v (q_loads 0 Try.underlying35 rfl rfl rfl sz35 (envX_len _ hcm2 hp2 _)) rfl ?_
          refine l_callT Try.func13 rfl rfl rfl (fun w1 H1 => (hE3 x78 w1 (Reads.row 1 rfl w1 H1)).mono fun e w' ⟨x, h1, h2⟩ => ⟨_, h1, h2⟩) rfl ?_
          intro A83 c83 hc83 hm83
          refine vl_v (q_move rfl) rfl ?_
          refine vl_v (q_ext rfl rfl) rfl ?_
          refine vl_v (q_ext rfl rfl) rfl ?_
          refine vl_v (q_assign rfl) rfl ?_
          refine vl_v (q_assign rfl) rfl ?_
          refine vl_nil ?_
          refine (th_n ?_)
          refine VC_seq ?_
          refine VC_region ?_
          refine vl_v (q_move rfl) rfl ?_
          refine vl_v (q_move rfl) rfl ?_
          refine vl_vg rfl (q_move rfl) rfl ?_
          refine vl_vg rfl (q_as (v := .bool (decide (¬ reE l = 0))) (q_neq_n (q := 0) Try.underlying28 rfl rfl) (by simp)) rfl ?_
          by_cases hs89 : ¬ reE l = 0
          · skip
            rw [show decide (¬ reE l = 0) = true from decide_eq_true hs89]
            refine vl_vg rfl (q_move rfl) rfl ?_
            refine vl_skip rfl rfl ?_
            refine vl_skip rfl rfl ?_
            refine vl_skip rfl rfl ?_
            refine vl_skip rfl rfl ?_
            refine vl_skip rfl rfl ?_
            refine vl_skip rfl rfl ?_
            refine vl_skip rfl rfl ?_
            refine vl_skip rfl rfl ?_
            refine vl_skip rfl rfl ?_
            first | (refine vl_vg rfl (q_pickT rfl rfl) rfl ?_) | (refine vl_vg rfl (q_pickF rfl rfl) rfl ?_)
            first | (refine vl_v (q_pickT rfl rfl) rfl ?_) | (refine vl_v (q_pickF rfl rfl) rfl ?_)
            refine vl_v (q_assign rfl) rfl ?_
            refine vl_nil ?_
            refine (th_n ?_)
            refine VC_ret ?_
            refine ⟨_, res1 rfl rfl, ?_⟩
            exact rfl
          · skip
            rw [show decide (¬ reE l = 0) = false from decide_eq_false hs89]
            refine vl_vg rfl (q_move rfl) rfl ?_
            refine vl_vg rfl (q_move rfl) rfl ?_
            refine vl_vg rfl (q_true (q_eql_n (q := 0) Try.underlying28 rfl rfl) (decide_eq_true (er (Decidable.not_not.1 hs89)).1)) rfl ?_
            refine vl_vg rfl (q_move rfl) rfl ?_
            refine vl_vg rfl (q_move rfl) rfl ?_
            refine vl_vg rfl (q_str Try.underlying26 Try.underlying5 Try.underlying9 rfl (Reads.row 0 rfl) (by first | assumption | omega | (simp only [bys_length]; omega))) rfl ?_
            refine vl_vg rfl (q_move rfl) rfl ?_
            refine vl_vg rfl (q_str (l := l) Try.underlying26 Try.underlying5 Try.underlying9 rfl (Reads.old hB) rfl) rfl ?_
            refine vl_vg rfl (q_true (q_eqStr Try.underlying9 rfl rfl) (decide_eq_true (er (Decidable.not_not.1 hs89)).2)) rfl ?_
            first | (refine vl_vg rfl (q_pickT rfl rfl) rfl ?_) | (refine vl_vg rfl (q_pickF rfl rfl) rfl ?_)
            first | (refine vl_vg rfl (q_pickT rfl rfl) rfl ?_) | (refine vl_vg rfl (q_pickF rfl rfl) rfl ?_)
            first | (refine vl_v (q_pickT rfl rfl) rfl ?_) | (refine vl_v (q_pickF rfl rfl) rfl ?_)
            refine vl_v (q_assign rfl) rfl ?_
            refine vl_nil ?_
            refine (th_n ?_)
            refine VC_ret ?_
            refine ⟨_, res1 rfl rfl, ?_⟩
            exact rfl
      · skip
        rw [show decide (enK X = 0) = false from decide_eq_false hs44]
        refine vl_v (q_move rfl) rfl ?_
        refine vl_skip rfl rfl ?_
        refine vl_skip rfl rfl ?_
        refine vl_skip rfl rfl ?_
        refine vl_skip rfl rfl ?_
        refine vl_skip rfl rfl ?_
        refine vl_skip rfl rfl ?_
        first | (refine vl_v (q_pickT rfl rfl) rfl ?_) | (refine vl_v (q_pickF rfl rfl) rfl ?_)
        refine vl_nil ?_
        refine (th_n ?_)
        refine VC_no (rfl) ?_
        refine VC_skip ?_
        refine (th_n ?_)
        refine VC_seq ?_
        refine VC_region ?_
        refine vl_v (q_fldA fo35_3 (by decide) rfl rfl) rfl ?_
        refine vl_v (q_loadsAt 3 Try.underlying25 rfl rfl rfl sz25 g3 hl34) rfl ?_
        refine l_callT Try.func9 rfl rfl rfl (fun w1 H1 => (hH w1).mono fun e w' ⟨x, h1, h2⟩ => ⟨_, h1, h2⟩) rfl ?_
        intro A56 c56 hc56 hm56
        refine vl_v (q_move rfl) rfl ?_
        refine vl_v (q_ext rfl rfl) rfl ?_
        refine vl_v (q_ext rfl rfl) rfl ?_
        refine vl_v (q_assign rfl) rfl ?_
        refine vl_v (q_assign rfl) rfl ?_
        refine vl_nil ?_
        refine (th_n ?_)
        refine VC_seq ?_
        refine VC_region ?_
        refine vl_v (q_move rfl) rfl ?_
        refine vl_v (q_callV Try.func11 rfl rfl rfl (fun w1 H1 => read_calls (hdB X) A56 _ c56 rfl (by omega) w1 (Reads.row 0 rfl w1 H1))) rfl ?_
        refine vl_v (q_move rfl) rfl ?_
        refine vl_v (q_ext rfl rfl) rfl ?_
        refine vl_v (q_ext rfl rfl) rfl ?_
        refine l_allocA zr25 rfl ?_
        intro b13
        refine l_storeA 0 rfl rfl rfl sz25 (rdC_length _) (rdC_one _) (by rw [zHeadC_eq]; exact zHeadC_length) ?_
        simp only [List.set_cons_zero, List.set_cons_succ]
        refine vl_v (q_assign rfl) rfl ?_
        refine vl_nil ?_
        refine (th_n ?_)
        refine VC_seq ?_
        refine VC_seq ?_
        refine VC_region ?_
        refine vl_v (q_move rfl) rfl ?_
        refine vl_v (q_eql_n (q := 0) Try.underlying28 rfl rfl) rfl ?_
        by_cases hs65 : hdK X = 0
        · skip
          rw [show decide (hdK X = 0) = true from decide_eq_true hs65]
          refine vl_v (q_move rfl) rfl ?_
          refine vl_vg rfl (q_move rfl) rfl ?_
          refine vl_vg rfl (q_as (v := .bool false) (q_neq_n (q := 0) Try.underlying28 rfl rfl) (by rw [(hd hs65).1]; rfl)) rfl ?_
          refine vl_vg rfl (q_move rfl) rfl ?_
          refine vl_vg rfl (q_loads 0 Try.underlying25 rfl rfl rfl sz25 (rdC_length _)) rfl ?_
          refine vl_vg rfl (q_fldA fo35_3 (by decide) rfl rfl) rfl ?_
          refine vl_vg rfl (q_loadsAt 5 Try.underlying25 rfl rfl rfl sz25 g3 hl34) rfl ?_
          refine vl_vg rfl (q_as (v := .bool false) (q_neR flatHead rfl rfl (rdC_fits _) fX (r := true) ⟨fun _ => (hd hs65).2, fun _ => rfl⟩) rfl) rfl ?_
          first | (refine vl_vg rfl (q_pickT rfl rfl) rfl ?_) | (refine vl_vg rfl (q_pickF rfl rfl) rfl ?_)
          first | (refine vl_v (q_pickT rfl rfl) rfl ?_) | (refine vl_v (q_pickF rfl rfl) rfl ?_)
          refine vl_nil ?_
          refine (th_n ?_)
          refine VC_no (rfl) ?_
          refine VC_skip ?_
          refine (th_n ?_)
          refine VC_seq ?_
          refine VC_region ?_
          refine vl_v (q_move rfl) rfl ?_
          refine l_callG Try.func15 rfl rfl rfl (fun w1 H1 => hR1 w1 (Reads.old hB w1 H1)) rfl ?_
          intro x78
          refine vl_v (q_move rfl) rfl ?_
          refine vl_v (q_ext rfl rfl) rfl ?_
          refine vl_v (q_ext rfl rfl) rfl ?_
          refine l_allocA zr35 rfl ?_
          intro b15
          refine l_storeA 0 rfl rfl rfl sz35 (envX_len _ (reX_cm l) (reX_pub l) _) (envX_one _ _) (by rw [zEnvC_eq]; exact zEnvC_length) ?_
          simp only [List.set_cons_zero, List.set_cons_succ]
          refine vl_v (q_assign rfl) rfl ?_
          refine vl_nil ?_
          refine (th_n ?_)
          refine VC_seq ?_
          refine VC_region ?_
          refine vl_v (q_loads 0 Try.underlying35 rfl rfl rfl sz35 (envX_len _ hcm2 hp2 _)) rfl ?_
          refine l_callT Try.func13 rfl rfl rfl (fun w1 H1 => (hE3 x78 w1 (Reads.row 1 rfl w1 H1)).mono fun e w' ⟨x, h1, h2⟩ => ⟨_, h1, h2⟩) rfl ?_
          intro A83 c83 hc83 hm83
          refine vl_v (q_move rfl) rfl ?_
          refine vl_v (q_ext rfl rfl) rfl ?_
          refine vl_v (q_ext rfl rfl) rfl ?_
          refine vl_v (q_assign rfl) rfl ?_
          refine vl_v (q_assign rfl) rfl ?_
          refine vl_nil ?_
          refine (th_n ?_)
          refine VC_seq ?_
          refine VC_region ?_
          refine vl_v (q_move rfl) rfl ?_
          refine vl_v (q_move rfl) rfl ?_
          refine vl_vg rfl (q_move rfl) rfl ?_
          refine vl_vg rfl (q_as (v := .bool (decide (¬ reE l = 0))) (q_neq_n (q := 0) Try.underlying28 rfl rfl) (by simp)) rfl ?_
          by_cases hs89 : ¬ reE l = 0
          · skip
            rw [show decide (¬ reE l = 0) = true from decide_eq_true hs89]
            refine vl_vg rfl (q_move rfl) rfl ?_
            refine vl_skip rfl rfl ?_
            refine vl_skip rfl rfl ?_
            refine vl_skip rfl rfl ?_
            refine vl_skip rfl rfl ?_
            refine vl_skip rfl rfl ?_
            refine vl_skip rfl rfl ?_
            refine vl_skip rfl rfl ?_
            refine vl_skip rfl rfl ?_
            refine vl_skip rfl rfl ?_
            first | (refine vl_vg rfl (q_pickT rfl rfl) rfl ?_) | (refine vl_vg rfl (q_pickF rfl rfl) rfl ?_)
            first | (refine vl_v (q_pickT rfl rfl) rfl ?_) | (refine vl_v (q_pickF rfl rfl) rfl ?_)
            refine vl_v (q_assign rfl) rfl ?_
            refine vl_nil ?_
            refine (th_n ?_)
            refine VC_ret ?_
            refine ⟨_, res1 rfl rfl, ?_⟩
            exact rfl
          · skip
            rw [show decide (¬ reE l = 0) = false from decide_eq_false hs89]
            refine vl_vg rfl (q_move rfl) rfl ?_
            refine vl_vg rfl (q_move rfl) rfl ?_
            refine vl_vg rfl (q_true (q_eql_n (q := 0) Try.underlying28 rfl rfl) (decide_eq_true (er (Decidable.not_not.1 hs89)).1)) rfl ?_
            refine vl_vg rfl (q_move rfl) rfl ?_
            refine vl_vg rfl (q_move rfl) rfl ?_
            refine vl_vg rfl (q_str Try.underlying26 Try.underlying5 Try.underlying9 rfl (Reads.row 0 rfl) (by first | assumption | omega | (simp only [bys_length]; omega))) rfl ?_
            refine vl_vg rfl (q_move rfl) rfl ?_
            refine vl_vg rfl (q_str (l := l) Try.underlying26 Try.underlying5 Try.underlying9 rfl (Reads.old hB) rfl) rfl ?_
            refine vl_vg rfl (q_true (q_eqStr Try.underlying9 rfl rfl) (decide_eq_true (er (Decidable.not_not.1 hs89)).2)) rfl ?_
            first | (refine vl_vg rfl (q_pickT rfl rfl) rfl ?_) | (refine vl_vg rfl (q_pickF rfl rfl) rfl ?_)
            first | (refine vl_vg rfl (q_pickT rfl rfl) rfl ?_) | (refine vl_vg rfl (q_pickF rfl rfl) rfl ?_)
            first | (refine vl_v (q_pickT rfl rfl) rfl ?_) | (refine vl_v (q_pickF rfl rfl) rfl ?_)
            refine vl_v (q_assign rfl) rfl ?_
            refine vl_nil ?_
            refine (th_n ?_)
            refine VC_ret ?_
            refine ⟨_, res1 rfl rfl, ?_⟩
            exact rfl
        · skip
          rw [show decide (hdK X = 0) = false from decide_eq_false hs65]
          refine vl_v (q_move rfl) rfl ?_
          refine vl_skip rfl rfl ?_
          refine vl_skip rfl rfl ?_
          refine vl_skip rfl rfl ?_
          refine vl_skip rfl rfl ?_
          refine vl_skip rfl rfl ?_
          refine vl_skip rfl rfl ?_
          refine vl_skip rfl rfl ?_
          refine vl_skip rfl rfl ?_
          first | (refine vl_v (q_pickT rfl rfl) rfl ?_) | (refine vl_v (q_pickF rfl rfl) rfl ?_)
          refine vl_nil ?_
          refine (th_n ?_)
          refine VC_no (rfl) ?_
          refine VC_skip ?_
          refine (th_n ?_)
          refine VC_seq ?_
          refine VC_region ?_
          refine vl_v (q_move rfl) rfl ?_
          refine l_callG Try.func15 rfl rfl rfl (fun w1 H1 => hR1 w1 (Reads.old hB w1 H1)) rfl ?_
          intro x78
          refine vl_v (q_move rfl) rfl ?_
          refine vl_v (q_ext rfl rfl) rfl ?_
          refine vl_v (q_ext rfl rfl) rfl ?_
          refine l_allocA zr35 rfl ?_
          intro b15
          refine l_storeA 0 rfl rfl rfl sz35 (envX_len _ (reX_cm l) (reX_pub l) _) (envX_one _ _) (by rw [zEnvC_eq]; exact zEnvC_length) ?_
          simp only [List.set_cons_zero, List.set_cons_succ]
          refine vl_v (q_assign rfl) rfl ?_
          refine vl_nil ?_
          refine (th_n ?_)
          refine VC_seq ?_
          refine VC_region ?_
          refine vl_v (q_loads 0 Try.underlying35 rfl rfl rfl sz35 (envX_len _ hcm2 hp2 _)) rfl ?_
          refine l_callT Try.func13 rfl rfl rfl (fun w1 H1 => (hE3 x78 w1 (Reads.row 1 rfl w1 H1)).mono fun e w' ⟨x, h1, h2⟩ => ⟨_, h1, h2⟩) rfl ?_
          intro A83 c83 hc83 hm83
          refine vl_v (q_move rfl) rfl ?_
          refine vl_v (q_ext rfl rfl) rfl ?_
          refine vl_v (q_ext rfl rfl) rfl ?_
          refine vl_v (q_assign rfl) rfl ?_
          refine vl_v (q_assign rfl) rfl ?_
          refine vl_nil ?_
          refine (th_n ?_)
          refine VC_seq ?_
          refine VC_region ?_
          refine vl_v (q_move rfl) rfl ?_
          refine vl_v (q_move rfl) rfl ?_
          refine vl_vg rfl (q_move rfl) rfl ?_
          refine vl_vg rfl (q_as (v := .bool (decide (¬ reE l = 0))) (q_neq_n (q := 0) Try.underlying28 rfl rfl) (by simp)) rfl ?_
          by_cases hs89 : ¬ reE l = 0
          · skip
            rw [show decide (¬ reE l = 0) = true from decide_eq_true hs89]
            refine vl_vg rfl (q_move rfl) rfl ?_
            refine vl_skip rfl rfl ?_
            refine vl_skip rfl rfl ?_
            refine vl_skip rfl rfl ?_
            refine vl_skip rfl rfl ?_
            refine vl_skip rfl rfl ?_
            refine vl_skip rfl rfl ?_
            refine vl_skip rfl rfl ?_
            refine vl_skip rfl rfl ?_
            refine vl_skip rfl rfl ?_
            first | (refine vl_vg rfl (q_pickT rfl rfl) rfl ?_) | (refine vl_vg rfl (q_pickF rfl rfl) rfl ?_)
            first | (refine vl_v (q_pickT rfl rfl) rfl ?_) | (refine vl_v (q_pickF rfl rfl) rfl ?_)
            refine vl_v (q_assign rfl) rfl ?_
            refine vl_nil ?_
            refine (th_n ?_)
            refine VC_ret ?_
            refine ⟨_, res1 rfl rfl, ?_⟩
            exact rfl
          · skip
            rw [show decide (¬ reE l = 0) = false from decide_eq_false hs89]
            refine vl_vg rfl (q_move rfl) rfl ?_
            refine vl_vg rfl (q_move rfl) rfl ?_
            refine vl_vg rfl (q_true (q_eql_n (q := 0) Try.underlying28 rfl rfl) (decide_eq_true (er (Decidable.not_not.1 hs89)).1)) rfl ?_
            refine vl_vg rfl (q_move rfl) rfl ?_
            refine vl_vg rfl (q_move rfl) rfl ?_
            refine vl_vg rfl (q_str Try.underlying26 Try.underlying5 Try.underlying9 rfl (Reads.row 0 rfl) (by first | assumption | omega | (simp only [bys_length]; omega))) rfl ?_
            refine vl_vg rfl (q_move rfl) rfl ?_
            refine vl_vg rfl (q_str (l := l) Try.underlying26 Try.underlying5 Try.underlying9 rfl (Reads.old hB) rfl) rfl ?_
            refine vl_vg rfl (q_true (q_eqStr Try.underlying9 rfl rfl) (decide_eq_true (er (Decidable.not_not.1 hs89)).2)) rfl ?_
            first | (refine vl_vg rfl (q_pickT rfl rfl) rfl ?_) | (refine vl_vg rfl (q_pickF rfl rfl) rfl ?_)
            first | (refine vl_vg rfl (q_pickT rfl rfl) rfl ?_) | (refine vl_vg rfl (q_pickF rfl rfl) rfl ?_)
            first | (refine vl_v (q_pickT rfl rfl) rfl ?_) | (refine vl_v (q_pickF rfl rfl) rfl ?_)
            refine vl_v (q_assign rfl) rfl ?_
            refine vl_nil ?_
            refine (th_n ?_)
            refine VC_ret ?_
            refine ⟨_, res1 rfl rfl, ?_⟩
            exact rfl
theorem headBack.walk (w : World) (v0 : Value) (x : EnvD) (h0 : EnvW w v0 x) (v1 : Value) (l : List UInt8) (h1 : BsArg w v1 l) :
    Calls Try.prog 6 #[v0, v1] w fun e w' => e = .returned (.bool true) ∧ Kept [] w w' := by
  obtain ⟨⟨A, n, c, rfl, hcm, hp, rfl, hc, _, hA⟩, fX⟩ := h0
  obtain ⟨B, k, rfl, hk, _, hB⟩ := h1
  exact back_all x A c hcm hp hc fX w hA l B k hk hB

namespace headBack
open Go.ChangeShapes Go.WideShapes Go.ChangeAt Go.RowKit
theorem own : ownKnob Try.prog.godebug = none := by kernel_rfl
theorem laidOut : laidOutB Try.prog = true := by kernel_rfl
set_option maxRecDepth 100000 in
theorem lifted (os : Os) (started : os.Started) (H : Type) (enc : TypeId × Value → H) :
    ReturnsInHanded {} Try.checked os 6 .any (Rows.headBackSpec.pre6 enc Try.prog Try.f6 Rows.headBackRow.domain false) (Rows.headBackSpec.post enc Try.prog Try.f6 false true false false) := by
  refine returnsInHanded_of_change (C := Try.checked) own started (by kernel_rfl) Try.func6
    (ChangeSpec.witness6 (enc := enc) (C := Try.checked) false ⟨#[], #[(.agg (envC 0 0 (List.replicate 32 0) (List.replicate 32 0) 0 0 (.slice none 0 0)).toArray), .slice none 0 0], []⟩ 8 (by kernel_rfl) (by kernel_rfl) (by kernel_rfl) (by kernel_rfl)) ?_
  intro W base args ds gs before hval0 hW hcnd _
  have hval : ∀ (j : Nat) t v, Try.f6.params[j]? = some t → args[j]? = some v → Value.okWide Try.prog W .any base t v := hval0
  have hW' := hW
  obtain ⟨p, q, hA0, hV, rfl, hfz, hnd⟩ := hW
  have hA : DataW.TrodAll enc Try.prog W 0 (fun _ => true) true Try.f6.params.toList args.toList ds p := hA0
  rw [Try.params6] at hA hval
  obtain ⟨v0, vs0, d0, ds0, p0, q0, hargs, rfl, rfl, h0, r0⟩ := trodAll_cons hA
  obtain ⟨v1, vs1, d1, ds1, p1, q1, rfl, rfl, rfl, h1, r1⟩ := trodAll_cons r0
  obtain ⟨rfl, rfl, rfl⟩ := trodAll_nil r1
  obtain rfl : args = #[v0, v1] := by cases args; simp_all
  obtain ⟨rfl, rfl⟩ := trodVars_none hV
  have k0 := h0
  have lt0 : ∀ x ∈ p0, x.block < W.heap.size := by obtain ⟨m, hm⟩ := k0; exact DataW.trod_lt m _ _ _ hm
  have k1 := h1
  have lt1 : ∀ x ∈ p1, x.block < W.heap.size := by obtain ⟨m, hm⟩ := k1; exact DataW.trod_lt m _ _ _ hm
  obtain ⟨l0, g0⟩ := open_envW (hval 0 35 v0 rfl rfl) h0
  obtain ⟨l1, g1⟩ := open_bytes Try.underlying26 Try.underlying5 (by kernel_rfl) (hval 1 26 v1 rfl rfl) h1
  clear hA0 hval0
  refine (headBack.walk W v0 l0 g0 v1 l1 g1).mono fun e W' ⟨he, hK⟩ => ?_
  subst he
  have bel := hK.below
  exact ⟨_, rfl, _, _, _, [], _, [], hW', trodAll_mk1 (shut_bool Try.underlying4 _), (trodAll_cons_mk (Below.trod laidOut (by kernel_rfl) (of_decide_eq_true (by kernel_rfl)) k0 bel lt0) (trodAll_cons_mk (Below.trod laidOut (by kernel_rfl) (of_decide_eq_true (by kernel_rfl)) k1 bel lt1) trodAll_mk0)), rfl, bel.frame _, fun h => by cases h⟩
theorem over : Rows.headBackRow.holds Try.pinned (OpenSpec.ofChange Rows.headBackSpec) :=
  OpenClaim.holds_of_wide 6 Try.f6 rfl rfl rfl rfl rfl rfl rfl ⟨rfl, rfl, rfl, rfl, rfl⟩ rfl rfl rfl rfl rfl (by kernel_rfl) Try.func6 (by kernel_rfl)
    (of_decide_eq_true (by kernel_rfl)) (by unfold Func.isWrapper; first | (rw [if_pos (by decide +kernel)]; kernel_rfl) | (rw [if_neg (by decide +kernel)]; exact ⟨rfl, rfl⟩))
    (fun os started H enc _ => lifted os started H enc)
theorem proved : Rows.HeadBackSaid := over
end headBack
/-- The row. -/
theorem headBack_holds : Rows.HeadBackSaid := headBack.proved
#print axioms headBack_holds
end Go.Proofs.Ytpjjledbmfmbiaa
