/- What the functions of package head do: an envelope's bytes. Conditions: lengths that memory bears. -/
import Derived.Test.YtpjjledbmfmbiaaC12f
import Derived.Test.YtpjjledbmfmbiaaS12b
namespace Go.Proofs.Ytpjjledbmfmbiaa
open Go.RowKit Go.PBYtpjjledbmfmbiaa
set_option linter.unusedVariables false
set_option linter.unusedSimpArgs false
set_option maxRecDepth 10000

theorem hrightE_calls (f t : Int) (cm pub : List UInt8) (p q : Int) (n cB : Nat) (B : Option Addr) (hc : cm.length = 32) (hp : pub.length = 32) (w : World) :
    Calls Try.prog 27 #[.agg (envC f t cm pub p q (.slice B n cB)).toArray] w fun e w' => e = .returned (.bool (rightEB f t p q n)) ∧ Kept [] w w' := by
  have hF := envC_f (f := f) (t := t) (p := p) (q := q) (sl := .slice B n cB) hc hp
  obtain ⟨c, hcc⟩ : ∃ c, envC f t cm pub p q (.slice B n cB) = c := ⟨_, rfl⟩
  rw [hcc] at hF ⊢
  obtain ⟨h0, g0, g1, g2, g3, g4⟩ := hF
  have hh := headC_length hp p q
  obtain ⟨r, hr⟩ : ∃ r, rightB p q = r := ⟨_, rfl⟩
  have hri := hright_calls pub p q hp
  rw [hr] at hri
  have hre : rightEB f t p q n = (decide (0 ≤ min f t) && decide (max f t < 8) && r && decide (n ≤ 600)) := by rw [← hr]; rfl
  have hre2 : rightEB f t p q n = (decide (0 ≤ f) && decide (f ≤ 7) && decide (0 ≤ t) && decide (t ≤ 7) && r && decide (n ≤ 600)) := by
    rw [Bool.eq_iff_iff, rightEB_iff, hr]
    simp only [Bool.and_eq_true, decide_eq_true_iff, and_assoc]
  refine enter (n := 28) (R := fun e L => e = .returned (.bool (rightEB f t p q n))) [.agg c.toArray] Try.func27 rfl rfl rfl (St.refl w) ?_ (fun e w' L' h H => ⟨h, H.kept⟩)
  cases r
  · skip
    refine VC_seq ?_
    refine VC_region ?_
    refine l_boxA rfl rfl ?_
    intro b1
    refine vl_v (q_assign rfl) rfl ?_
    refine vl_nil ?_
    refine (th_n ?_)
    refine VC_seq ?_
    refine VC_region ?_
    refine vl_v (q_fldA fo35_0 (by decide) rfl rfl) rfl ?_
    refine vl_v (q_load 0 Try.underlying3 rfl rfl rfl g0) rfl ?_
    refine vl_v (q_fldA fo35_1 (by decide) rfl rfl) rfl ?_
    refine vl_v (q_load 0 Try.underlying3 rfl rfl rfl g1) rfl ?_
    refine vl_v (q_minI rfl rfl) rfl ?_
    refine vl_v (q_geq_k Try.underlying3 rfl rfl) rfl ?_
    by_cases hs8 : 0 ≤ min f t
    · skip
      rw [show decide (0 ≤ min f t) = true from decide_eq_true hs8]
      refine vl_v (q_move rfl) rfl ?_
      refine vl_vg rfl (q_fldA fo35_0 (by decide) rfl rfl) rfl ?_
      refine vl_vg rfl (q_load 0 Try.underlying3 rfl rfl rfl g0) rfl ?_
      refine vl_vg rfl (q_fldA fo35_1 (by decide) rfl rfl) rfl ?_
      refine vl_vg rfl (q_load 0 Try.underlying3 rfl rfl rfl g1) rfl ?_
      refine vl_vg rfl (q_maxI rfl rfl) rfl ?_
      refine vl_vg rfl (q_lss_k Try.underlying3 rfl rfl) rfl ?_
      by_cases hs15 : max f t < 8
      · skip
        rw [show decide (max f t < 8) = true from decide_eq_true hs15]
        first | (refine vl_v (q_pickT rfl rfl) rfl ?_) | (refine vl_v (q_pickF rfl rfl) rfl ?_)
        refine vl_v (q_move rfl) rfl ?_
        refine vl_vg rfl (q_fldA fo35_3 (by decide) rfl rfl) rfl ?_
        refine vl_vg rfl (q_loadsAt 0 Try.underlying25 rfl rfl rfl sz25 g3 hh) rfl ?_
        refine vl_vg rfl (q_callV Try.func18 rfl rfl rfl (fun w1 H1 => hri w1)) rfl ?_
        first | (refine vl_v (q_pickT rfl rfl) rfl ?_) | (refine vl_v (q_pickF rfl rfl) rfl ?_)
        refine vl_v (q_move rfl) rfl ?_
        refine vl_skip rfl rfl ?_
        refine vl_skip rfl rfl ?_
        refine vl_skip rfl rfl ?_
        refine vl_skip rfl rfl ?_
        first | (refine vl_v (q_pickT rfl rfl) rfl ?_) | (refine vl_v (q_pickF rfl rfl) rfl ?_)
        refine vl_v (q_assign rfl) rfl ?_
        refine vl_nil ?_
        refine (th_n ?_)
        refine VC_ret ?_
        refine ⟨_, res1 rfl rfl, ?_⟩
        exact congrArg (fun b => Ending.returned (Value.bool b)) (by rw [hre]; (first | rw [decide_eq_true hs8, decide_eq_true hs15] | rw [decide_eq_true hs8, decide_eq_false hs15] | rw [decide_eq_false hs8]) <;> rfl)
      · skip
        rw [show decide (max f t < 8) = false from decide_eq_false hs15]
        first | (refine vl_v (q_pickT rfl rfl) rfl ?_) | (refine vl_v (q_pickF rfl rfl) rfl ?_)
        refine vl_v (q_move rfl) rfl ?_
        refine vl_skip rfl rfl ?_
        refine vl_skip rfl rfl ?_
        refine vl_skip rfl rfl ?_
        first | (refine vl_v (q_pickT rfl rfl) rfl ?_) | (refine vl_v (q_pickF rfl rfl) rfl ?_)
        refine vl_v (q_move rfl) rfl ?_
        refine vl_skip rfl rfl ?_
        refine vl_skip rfl rfl ?_
        refine vl_skip rfl rfl ?_
        refine vl_skip rfl rfl ?_
        first | (refine vl_v (q_pickT rfl rfl) rfl ?_) | (refine vl_v (q_pickF rfl rfl) rfl ?_)
        refine vl_v (q_assign rfl) rfl ?_
        refine vl_nil ?_
        refine (th_n ?_)
        refine VC_ret ?_
        refine ⟨_, res1 rfl rfl, ?_⟩
        exact congrArg (fun b => Ending.returned (Value.bool b)) (by rw [hre]; (first | rw [decide_eq_true hs8, decide_eq_true hs15] | rw [decide_eq_true hs8, decide_eq_false hs15] | rw [decide_eq_false hs8]) <;> rfl)
    · skip
      rw [show decide (0 ≤ min f t) = false from decide_eq_false hs8]
      refine vl_v (q_move rfl) rfl ?_
      refine vl_skip rfl rfl ?_
      refine vl_skip rfl rfl ?_
      refine vl_skip rfl rfl ?_
      refine vl_skip rfl rfl ?_
      refine vl_skip rfl rfl ?_
      refine vl_skip rfl rfl ?_
      first | (refine vl_v (q_pickT rfl rfl) rfl ?_) | (refine vl_v (q_pickF rfl rfl) rfl ?_)
      refine vl_v (q_move rfl) rfl ?_
      refine vl_skip rfl rfl ?_
      refine vl_skip rfl rfl ?_
      refine vl_skip rfl rfl ?_
      first | (refine vl_v (q_pickT rfl rfl) rfl ?_) | (refine vl_v (q_pickF rfl rfl) rfl ?_)
      refine vl_v (q_move rfl) rfl ?_
      refine vl_skip rfl rfl ?_
      refine vl_skip rfl rfl ?_
      refine vl_skip rfl rfl ?_
      refine vl_skip rfl rfl ?_
      first | (refine vl_v (q_pickT rfl rfl) rfl ?_) | (refine vl_v (q_pickF rfl rfl) rfl ?_)
      refine vl_v (q_assign rfl) rfl ?_
      refine vl_nil ?_
      refine (th_n ?_)
      refine VC_ret ?_
      refine ⟨_, res1 rfl rfl, ?_⟩
      exact congrArg (fun b => Ending.returned (Value.bool b)) (by rw [hre]; (first | rw [decide_eq_true hs8, decide_eq_true hs15] | rw [decide_eq_true hs8, decide_eq_false hs15] | rw [decide_eq_false hs8]) <;> rfl)
  · skip
    refine VC_seq ?_
    refine VC_region ?_
    refine l_boxA rfl rfl ?_
    intro b1
    refine vl_v (q_assign rfl) rfl ?_
    refine vl_nil ?_
    refine (th_n ?_)
    refine VC_seq ?_
    refine VC_region ?_
    refine vl_v (q_fldA fo35_0 (by decide) rfl rfl) rfl ?_
    refine vl_v (q_load 0 Try.underlying3 rfl rfl rfl g0) rfl ?_
    refine vl_v (q_fldA fo35_1 (by decide) rfl rfl) rfl ?_
    refine vl_v (q_load 0 Try.underlying3 rfl rfl rfl g1) rfl ?_
    refine vl_v (q_minI rfl rfl) rfl ?_
    refine vl_v (q_geq_k Try.underlying3 rfl rfl) rfl ?_
    by_cases hs8 : 0 ≤ min f t
    · skip
      rw [show decide (0 ≤ min f t) = true from decide_eq_true hs8]
      refine vl_v (q_move rfl) rfl ?_
      refine vl_vg rfl (q_fldA fo35_0 (by decide) rfl rfl) rfl ?_
      refine vl_vg rfl (q_load 0 Try.underlying3 rfl rfl rfl g0) rfl ?_
      refine vl_vg rfl (q_fldA fo35_1 (by decide) rfl rfl) rfl ?_
      refine vl_vg rfl (q_load 0 Try.underlying3 rfl rfl rfl g1) rfl ?_
      refine vl_vg rfl (q_maxI rfl rfl) rfl ?_
      refine vl_vg rfl (q_lss_k Try.underlying3 rfl rfl) rfl ?_
      by_cases hs15 : max f t < 8
      · skip
        rw [show decide (max f t < 8) = true from decide_eq_true hs15]
        first | (refine vl_v (q_pickT rfl rfl) rfl ?_) | (refine vl_v (q_pickF rfl rfl) rfl ?_)
        refine vl_v (q_move rfl) rfl ?_
        refine vl_vg rfl (q_fldA fo35_3 (by decide) rfl rfl) rfl ?_
        refine vl_vg rfl (q_loadsAt 0 Try.underlying25 rfl rfl rfl sz25 g3 hh) rfl ?_
        refine vl_vg rfl (q_callV Try.func18 rfl rfl rfl (fun w1 H1 => hri w1)) rfl ?_
        first | (refine vl_v (q_pickT rfl rfl) rfl ?_) | (refine vl_v (q_pickF rfl rfl) rfl ?_)
        refine vl_v (q_move rfl) rfl ?_
        refine vl_vg rfl (q_fldA fo35_4 (by decide) rfl rfl) rfl ?_
        refine vl_vg rfl (q_load 0 Try.underlying26 rfl rfl rfl g4) rfl ?_
        refine vl_vg rfl (q_lenS Try.underlying26 rfl) rfl ?_
        refine vl_vg rfl (q_leq_n (q := 600) Try.underlying3 rfl rfl) rfl ?_
        first | (refine vl_v (q_pickT rfl rfl) rfl ?_) | (refine vl_v (q_pickF rfl rfl) rfl ?_)
        refine vl_v (q_assign rfl) rfl ?_
        refine vl_nil ?_
        refine (th_n ?_)
        refine VC_ret ?_
        refine ⟨_, res1 rfl rfl, ?_⟩
        exact congrArg (fun b => Ending.returned (Value.bool b)) (by rw [hre]; (first | rw [decide_eq_true hs8, decide_eq_true hs15] | rw [decide_eq_true hs8, decide_eq_false hs15] | rw [decide_eq_false hs8]) <;> rfl)
      · skip
        rw [show decide (max f t < 8) = false from decide_eq_false hs15]
        first | (refine vl_v (q_pickT rfl rfl) rfl ?_) | (refine vl_v (q_pickF rfl rfl) rfl ?_)
        refine vl_v (q_move rfl) rfl ?_
        refine vl_skip rfl rfl ?_
        refine vl_skip rfl rfl ?_
        refine vl_skip rfl rfl ?_
        first | (refine vl_v (q_pickT rfl rfl) rfl ?_) | (refine vl_v (q_pickF rfl rfl) rfl ?_)
        refine vl_v (q_move rfl) rfl ?_
        refine vl_skip rfl rfl ?_
        refine vl_skip rfl rfl ?_
        refine vl_skip rfl rfl ?_
        refine vl_skip rfl rfl ?_
        first | (refine vl_v (q_pickT rfl rfl) rfl ?_) | (refine vl_v (q_pickF rfl rfl) rfl ?_)
        refine vl_v (q_assign rfl) rfl ?_
        refine vl_nil ?_
        refine (th_n ?_)
        refine VC_ret ?_
        refine ⟨_, res1 rfl rfl, ?_⟩
        exact congrArg (fun b => Ending.returned (Value.bool b)) (by rw [hre]; (first | rw [decide_eq_true hs8, decide_eq_true hs15] | rw [decide_eq_true hs8, decide_eq_false hs15] | rw [decide_eq_false hs8]) <;> rfl)
    · skip
      rw [show decide (0 ≤ min f t) = false from decide_eq_false hs8]
      refine vl_v (q_move rfl) rfl ?_
      refine vl_skip rfl rfl ?_
      refine vl_skip rfl rfl ?_
      refine vl_skip rfl rfl ?_
      refine vl_skip rfl rfl ?_
      refine vl_skip rfl rfl ?_
      refine vl_skip rfl rfl ?_
      first | (refine vl_v (q_pickT rfl rfl) rfl ?_) | (refine vl_v (q_pickF rfl rfl) rfl ?_)
      refine vl_v (q_move rfl) rfl ?_
      refine vl_skip rfl rfl ?_
      refine vl_skip rfl rfl ?_
      refine vl_skip rfl rfl ?_
      first | (refine vl_v (q_pickT rfl rfl) rfl ?_) | (refine vl_v (q_pickF rfl rfl) rfl ?_)
      refine vl_v (q_move rfl) rfl ?_
      refine vl_skip rfl rfl ?_
      refine vl_skip rfl rfl ?_
      refine vl_skip rfl rfl ?_
      refine vl_skip rfl rfl ?_
      first | (refine vl_v (q_pickT rfl rfl) rfl ?_) | (refine vl_v (q_pickF rfl rfl) rfl ?_)
      refine vl_v (q_assign rfl) rfl ?_
      refine vl_nil ?_
      refine (th_n ?_)
      refine VC_ret ?_
      refine ⟨_, res1 rfl rfl, ?_⟩
      exact congrArg (fun b => Ending.returned (Value.bool b)) (by rw [hre]; (first | rw [decide_eq_true hs8, decide_eq_true hs15] | rw [decide_eq_true hs8, decide_eq_false hs15] | rw [decide_eq_false hs8]) <;> rfl)
theorem rrightE_calls (f t : Int) (cm pub : List UInt8) (p q : Int) (n cB : Nat) (B : Option Addr) (hc : cm.length = 32) (hp : pub.length = 32) (w : World) :
    Calls Try.prog 28 #[.agg (envC f t cm pub p q (.slice B n cB)).toArray] w fun e w' => e = .returned (.bool (rightEB f t p q n)) ∧ Kept [] w w' := by
  have hF := envC_f (f := f) (t := t) (p := p) (q := q) (sl := .slice B n cB) hc hp
  obtain ⟨c, hcc⟩ : ∃ c, envC f t cm pub p q (.slice B n cB) = c := ⟨_, rfl⟩
  rw [hcc] at hF ⊢
  obtain ⟨h0, g0, g1, g2, g3, g4⟩ := hF
  have hh := headC_length hp p q
  obtain ⟨r, hr⟩ : ∃ r, rightB p q = r := ⟨_, rfl⟩
  have hri := rright_calls pub p q hp
  rw [hr] at hri
  have hre : rightEB f t p q n = (decide (0 ≤ min f t) && decide (max f t < 8) && r && decide (n ≤ 600)) := by rw [← hr]; rfl
  have hre2 : rightEB f t p q n = (decide (0 ≤ f) && decide (f ≤ 7) && decide (0 ≤ t) && decide (t ≤ 7) && r && decide (n ≤ 600)) := by
    rw [Bool.eq_iff_iff, rightEB_iff, hr]
    simp only [Bool.and_eq_true, decide_eq_true_iff, and_assoc]
  refine enter (n := 32) (R := fun e L => e = .returned (.bool (rightEB f t p q n))) [.agg c.toArray] Try.func28 rfl rfl rfl (St.refl w) ?_ (fun e w' L' h H => ⟨h, H.kept⟩)
  cases r
  · skip
    refine VC_seq ?_
    refine VC_region ?_
    refine l_boxA rfl rfl ?_
    intro b1
    refine vl_v (q_assign rfl) rfl ?_
    refine vl_nil ?_
    refine (th_n ?_)
    refine VC_seq ?_
    refine VC_region ?_
    refine vl_v (q_fldA fo35_0 (by decide) rfl rfl) rfl ?_
    refine vl_v (q_load 0 Try.underlying3 rfl rfl rfl g0) rfl ?_
    refine vl_v (q_geq_k Try.underlying3 rfl rfl) rfl ?_
    by_cases hs5 : 0 ≤ f
    · skip
      rw [show decide (0 ≤ f) = true from decide_eq_true hs5]
      refine vl_v (q_move rfl) rfl ?_
      refine vl_vg rfl (q_fldA fo35_0 (by decide) rfl rfl) rfl ?_
      refine vl_vg rfl (q_load 0 Try.underlying3 rfl rfl rfl g0) rfl ?_
      refine vl_vg rfl (q_leq_k Try.underlying3 rfl rfl) rfl ?_
      by_cases hs9 : f ≤ 7
      · skip
        rw [show decide (f ≤ 7) = true from decide_eq_true hs9]
        first | (refine vl_v (q_pickT rfl rfl) rfl ?_) | (refine vl_v (q_pickF rfl rfl) rfl ?_)
        refine vl_v (q_move rfl) rfl ?_
        refine vl_vg rfl (q_fldA fo35_1 (by decide) rfl rfl) rfl ?_
        refine vl_vg rfl (q_load 0 Try.underlying3 rfl rfl rfl g1) rfl ?_
        refine vl_vg rfl (q_geq_k Try.underlying3 rfl rfl) rfl ?_
        by_cases hs14 : 0 ≤ t
        · skip
          rw [show decide (0 ≤ t) = true from decide_eq_true hs14]
          first | (refine vl_v (q_pickT rfl rfl) rfl ?_) | (refine vl_v (q_pickF rfl rfl) rfl ?_)
          refine vl_v (q_move rfl) rfl ?_
          refine vl_vg rfl (q_fldA fo35_1 (by decide) rfl rfl) rfl ?_
          refine vl_vg rfl (q_load 0 Try.underlying3 rfl rfl rfl g1) rfl ?_
          refine vl_vg rfl (q_leq_k Try.underlying3 rfl rfl) rfl ?_
          by_cases hs19 : t ≤ 7
          · skip
            rw [show decide (t ≤ 7) = true from decide_eq_true hs19]
            first | (refine vl_v (q_pickT rfl rfl) rfl ?_) | (refine vl_v (q_pickF rfl rfl) rfl ?_)
            refine vl_v (q_move rfl) rfl ?_
            refine vl_vg rfl (q_fldA fo35_3 (by decide) rfl rfl) rfl ?_
            refine vl_vg rfl (q_loadsAt 0 Try.underlying25 rfl rfl rfl sz25 g3 hh) rfl ?_
            refine vl_vg rfl (q_callV Try.func20 rfl rfl rfl (fun w1 H1 => hri w1)) rfl ?_
            first | (refine vl_v (q_pickT rfl rfl) rfl ?_) | (refine vl_v (q_pickF rfl rfl) rfl ?_)
            refine vl_v (q_move rfl) rfl ?_
            refine vl_skip rfl rfl ?_
            refine vl_skip rfl rfl ?_
            refine vl_skip rfl rfl ?_
            refine vl_skip rfl rfl ?_
            first | (refine vl_v (q_pickT rfl rfl) rfl ?_) | (refine vl_v (q_pickF rfl rfl) rfl ?_)
            refine vl_v (q_assign rfl) rfl ?_
            refine vl_nil ?_
            refine (th_n ?_)
            refine VC_ret ?_
            refine ⟨_, res1 rfl rfl, ?_⟩
            exact congrArg (fun b => Ending.returned (Value.bool b)) (by rw [hre2]; (first | rw [decide_eq_true hs5, decide_eq_true hs9, decide_eq_true hs14, decide_eq_true hs19] | rw [decide_eq_true hs5, decide_eq_true hs9, decide_eq_true hs14, decide_eq_false hs19] | rw [decide_eq_true hs5, decide_eq_true hs9, decide_eq_false hs14] | rw [decide_eq_true hs5, decide_eq_false hs9] | rw [decide_eq_false hs5]) <;> rfl)
          · skip
            rw [show decide (t ≤ 7) = false from decide_eq_false hs19]
            first | (refine vl_v (q_pickT rfl rfl) rfl ?_) | (refine vl_v (q_pickF rfl rfl) rfl ?_)
            refine vl_v (q_move rfl) rfl ?_
            refine vl_skip rfl rfl ?_
            refine vl_skip rfl rfl ?_
            refine vl_skip rfl rfl ?_
            first | (refine vl_v (q_pickT rfl rfl) rfl ?_) | (refine vl_v (q_pickF rfl rfl) rfl ?_)
            refine vl_v (q_move rfl) rfl ?_
            refine vl_skip rfl rfl ?_
            refine vl_skip rfl rfl ?_
            refine vl_skip rfl rfl ?_
            refine vl_skip rfl rfl ?_
            first | (refine vl_v (q_pickT rfl rfl) rfl ?_) | (refine vl_v (q_pickF rfl rfl) rfl ?_)
            refine vl_v (q_assign rfl) rfl ?_
            refine vl_nil ?_
            refine (th_n ?_)
            refine VC_ret ?_
            refine ⟨_, res1 rfl rfl, ?_⟩
            exact congrArg (fun b => Ending.returned (Value.bool b)) (by rw [hre2]; (first | rw [decide_eq_true hs5, decide_eq_true hs9, decide_eq_true hs14, decide_eq_true hs19] | rw [decide_eq_true hs5, decide_eq_true hs9, decide_eq_true hs14, decide_eq_false hs19] | rw [decide_eq_true hs5, decide_eq_true hs9, decide_eq_false hs14] | rw [decide_eq_true hs5, decide_eq_false hs9] | rw [decide_eq_false hs5]) <;> rfl)
        · skip
          rw [show decide (0 ≤ t) = false from decide_eq_false hs14]
          first | (refine vl_v (q_pickT rfl rfl) rfl ?_) | (refine vl_v (q_pickF rfl rfl) rfl ?_)
          refine vl_v (q_move rfl) rfl ?_
          refine vl_skip rfl rfl ?_
          refine vl_skip rfl rfl ?_
          refine vl_skip rfl rfl ?_
          first | (refine vl_v (q_pickT rfl rfl) rfl ?_) | (refine vl_v (q_pickF rfl rfl) rfl ?_)
          refine vl_v (q_move rfl) rfl ?_
          refine vl_skip rfl rfl ?_
          refine vl_skip rfl rfl ?_
          refine vl_skip rfl rfl ?_
          first | (refine vl_v (q_pickT rfl rfl) rfl ?_) | (refine vl_v (q_pickF rfl rfl) rfl ?_)
          refine vl_v (q_move rfl) rfl ?_
          refine vl_skip rfl rfl ?_
          refine vl_skip rfl rfl ?_
          refine vl_skip rfl rfl ?_
          refine vl_skip rfl rfl ?_
          first | (refine vl_v (q_pickT rfl rfl) rfl ?_) | (refine vl_v (q_pickF rfl rfl) rfl ?_)
          refine vl_v (q_assign rfl) rfl ?_
          refine vl_nil ?_
          refine (th_n ?_)
          refine VC_ret ?_
          refine ⟨_, res1 rfl rfl, ?_⟩
          exact congrArg (fun b => Ending.returned (Value.bool b)) (by rw [hre2]; (first | rw [decide_eq_true hs5, decide_eq_true hs9, decide_eq_true hs14, decide_eq_true hs19] | rw [decide_eq_true hs5, decide_eq_true hs9, decide_eq_true hs14, decide_eq_false hs19] | rw [decide_eq_true hs5, decide_eq_true hs9, decide_eq_false hs14] | rw [decide_eq_true hs5, decide_eq_false hs9] | rw [decide_eq_false hs5]) <;> rfl)
      · skip
        rw [show decide (f ≤ 7) = false from decide_eq_false hs9]
        first | (refine vl_v (q_pickT rfl rfl) rfl ?_) | (refine vl_v (q_pickF rfl rfl) rfl ?_)
        refine vl_v (q_move rfl) rfl ?_
        refine vl_skip rfl rfl ?_
        refine vl_skip rfl rfl ?_
        refine vl_skip rfl rfl ?_
        first | (refine vl_v (q_pickT rfl rfl) rfl ?_) | (refine vl_v (q_pickF rfl rfl) rfl ?_)
        refine vl_v (q_move rfl) rfl ?_
        refine vl_skip rfl rfl ?_
        refine vl_skip rfl rfl ?_
        refine vl_skip rfl rfl ?_
        first | (refine vl_v (q_pickT rfl rfl) rfl ?_) | (refine vl_v (q_pickF rfl rfl) rfl ?_)
        refine vl_v (q_move rfl) rfl ?_
        refine vl_skip rfl rfl ?_
        refine vl_skip rfl rfl ?_
        refine vl_skip rfl rfl ?_
        first | (refine vl_v (q_pickT rfl rfl) rfl ?_) | (refine vl_v (q_pickF rfl rfl) rfl ?_)
        refine vl_v (q_move rfl) rfl ?_
        refine vl_skip rfl rfl ?_
        refine vl_skip rfl rfl ?_
        refine vl_skip rfl rfl ?_
        refine vl_skip rfl rfl ?_
        first | (refine vl_v (q_pickT rfl rfl) rfl ?_) | (refine vl_v (q_pickF rfl rfl) rfl ?_)
        refine vl_v (q_assign rfl) rfl ?_
        refine vl_nil ?_
        refine (th_n ?_)
        refine VC_ret ?_
        refine ⟨_, res1 rfl rfl, ?_⟩
        exact congrArg (fun b => Ending.returned (Value.bool b)) (by rw [hre2]; (first | rw [decide_eq_true hs5, decide_eq_true hs9, decide_eq_true hs14, decide_eq_true hs19] | rw [decide_eq_true hs5, decide_eq_true hs9, decide_eq_true hs14, decide_eq_false hs19] | rw [decide_eq_true hs5, decide_eq_true hs9, decide_eq_false hs14] | rw [decide_eq_true hs5, decide_eq_false hs9] | rw [decide_eq_false hs5]) <;> rfl)
    · skip
      rw [show decide (0 ≤ f) = false from decide_eq_false hs5]
      refine vl_v (q_move rfl) rfl ?_
      refine vl_skip rfl rfl ?_
      refine vl_skip rfl rfl ?_
      refine vl_skip rfl rfl ?_
      first | (refine vl_v (q_pickT rfl rfl) rfl ?_) | (refine vl_v (q_pickF rfl rfl) rfl ?_)
      refine vl_v (q_move rfl) rfl ?_
      refine vl_skip rfl rfl ?_
      refine vl_skip rfl rfl ?_
      refine vl_skip rfl rfl ?_
      first | (refine vl_v (q_pickT rfl rfl) rfl ?_) | (refine vl_v (q_pickF rfl rfl) rfl ?_)
      refine vl_v (q_move rfl) rfl ?_
      refine vl_skip rfl rfl ?_
      refine vl_skip rfl rfl ?_
      refine vl_skip rfl rfl ?_
      first | (refine vl_v (q_pickT rfl rfl) rfl ?_) | (refine vl_v (q_pickF rfl rfl) rfl ?_)
      refine vl_v (q_move rfl) rfl ?_
      refine vl_skip rfl rfl ?_
      refine vl_skip rfl rfl ?_
      refine vl_skip rfl rfl ?_
      first | (refine vl_v (q_pickT rfl rfl) rfl ?_) | (refine vl_v (q_pickF rfl rfl) rfl ?_)
      refine vl_v (q_move rfl) rfl ?_
      refine vl_skip rfl rfl ?_
      refine vl_skip rfl rfl ?_
      refine vl_skip rfl rfl ?_
      refine vl_skip rfl rfl ?_
      first | (refine vl_v (q_pickT rfl rfl) rfl ?_) | (refine vl_v (q_pickF rfl rfl) rfl ?_)
      refine vl_v (q_assign rfl) rfl ?_
      refine vl_nil ?_
      refine (th_n ?_)
      refine VC_ret ?_
      refine ⟨_, res1 rfl rfl, ?_⟩
      exact congrArg (fun b => Ending.returned (Value.bool b)) (by rw [hre2]; (first | rw [decide_eq_true hs5, decide_eq_true hs9, decide_eq_true hs14, decide_eq_true hs19] | rw [decide_eq_true hs5, decide_eq_true hs9, decide_eq_true hs14, decide_eq_false hs19] | rw [decide_eq_true hs5, decide_eq_true hs9, decide_eq_false hs14] | rw [decide_eq_true hs5, decide_eq_false hs9] | rw [decide_eq_false hs5]) <;> rfl)
  · skip
    refine VC_seq ?_
    refine VC_region ?_
    refine l_boxA rfl rfl ?_
    intro b1
    refine vl_v (q_assign rfl) rfl ?_
    refine vl_nil ?_
    refine (th_n ?_)
    refine VC_seq ?_
    refine VC_region ?_
    refine vl_v (q_fldA fo35_0 (by decide) rfl rfl) rfl ?_
    refine vl_v (q_load 0 Try.underlying3 rfl rfl rfl g0) rfl ?_
    refine vl_v (q_geq_k Try.underlying3 rfl rfl) rfl ?_
    by_cases hs5 : 0 ≤ f
    · skip
      rw [show decide (0 ≤ f) = true from decide_eq_true hs5]
      refine vl_v (q_move rfl) rfl ?_
      refine vl_vg rfl (q_fldA fo35_0 (by decide) rfl rfl) rfl ?_
      refine vl_vg rfl (q_load 0 Try.underlying3 rfl rfl rfl g0) rfl ?_
      refine vl_vg rfl (q_leq_k Try.underlying3 rfl rfl) rfl ?_
      by_cases hs9 : f ≤ 7
      · skip
        rw [show decide (f ≤ 7) = true from decide_eq_true hs9]
        first | (refine vl_v (q_pickT rfl rfl) rfl ?_) | (refine vl_v (q_pickF rfl rfl) rfl ?_)
        refine vl_v (q_move rfl) rfl ?_
        refine vl_vg rfl (q_fldA fo35_1 (by decide) rfl rfl) rfl ?_
        refine vl_vg rfl (q_load 0 Try.underlying3 rfl rfl rfl g1) rfl ?_
        refine vl_vg rfl (q_geq_k Try.underlying3 rfl rfl) rfl ?_
        by_cases hs14 : 0 ≤ t
        · skip
          rw [show decide (0 ≤ t) = true from decide_eq_true hs14]
          first | (refine vl_v (q_pickT rfl rfl) rfl ?_) | (refine vl_v (q_pickF rfl rfl) rfl ?_)
          refine vl_v (q_move rfl) rfl ?_
          refine vl_vg rfl (q_fldA fo35_1 (by decide) rfl rfl) rfl ?_
          refine vl_vg rfl (q_load 0 Try.underlying3 rfl rfl rfl g1) rfl ?_
          refine vl_vg rfl (q_leq_k Try.underlying3 rfl rfl) rfl ?_
          by_cases hs19 : t ≤ 7
          · skip
            rw [show decide (t ≤ 7) = true from decide_eq_true hs19]
            first | (refine vl_v (q_pickT rfl rfl) rfl ?_) | (refine vl_v (q_pickF rfl rfl) rfl ?_)
            refine vl_v (q_move rfl) rfl ?_
            refine vl_vg rfl (q_fldA fo35_3 (by decide) rfl rfl) rfl ?_
            refine vl_vg rfl (q_loadsAt 0 Try.underlying25 rfl rfl rfl sz25 g3 hh) rfl ?_
            refine vl_vg rfl (q_callV Try.func20 rfl rfl rfl (fun w1 H1 => hri w1)) rfl ?_
            first | (refine vl_v (q_pickT rfl rfl) rfl ?_) | (refine vl_v (q_pickF rfl rfl) rfl ?_)
            refine vl_v (q_move rfl) rfl ?_
            refine vl_vg rfl (q_fldA fo35_4 (by decide) rfl rfl) rfl ?_
            refine vl_vg rfl (q_load 0 Try.underlying26 rfl rfl rfl g4) rfl ?_
            refine vl_vg rfl (q_lenS Try.underlying26 rfl) rfl ?_
            refine vl_vg rfl (q_leq_n (q := 600) Try.underlying3 rfl rfl) rfl ?_
            first | (refine vl_v (q_pickT rfl rfl) rfl ?_) | (refine vl_v (q_pickF rfl rfl) rfl ?_)
            refine vl_v (q_assign rfl) rfl ?_
            refine vl_nil ?_
            refine (th_n ?_)
            refine VC_ret ?_
            refine ⟨_, res1 rfl rfl, ?_⟩
            exact congrArg (fun b => Ending.returned (Value.bool b)) (by rw [hre2]; (first | rw [decide_eq_true hs5, decide_eq_true hs9, decide_eq_true hs14, decide_eq_true hs19] | rw [decide_eq_true hs5, decide_eq_true hs9, decide_eq_true hs14, decide_eq_false hs19] | rw [decide_eq_true hs5, decide_eq_true hs9, decide_eq_false hs14] | rw [decide_eq_true hs5, decide_eq_false hs9] | rw [decide_eq_false hs5]) <;> rfl)
          · skip
            rw [show decide (t ≤ 7) = false from decide_eq_false hs19]
            first | (refine vl_v (q_pickT rfl rfl) rfl ?_) | (refine vl_v (q_pickF rfl rfl) rfl ?_)
            refine vl_v (q_move rfl) rfl ?_
            refine vl_skip rfl rfl ?_
            refine vl_skip rfl rfl ?_
            refine vl_skip rfl rfl ?_
            first | (refine vl_v (q_pickT rfl rfl) rfl ?_) | (refine vl_v (q_pickF rfl rfl) rfl ?_)
            refine vl_v (q_move rfl) rfl ?_
            refine vl_skip rfl rfl ?_
            refine vl_skip rfl rfl ?_
            refine vl_skip rfl rfl ?_
            refine vl_skip rfl rfl ?_
            first | (refine vl_v (q_pickT rfl rfl) rfl ?_) | (refine vl_v (q_pickF rfl rfl) rfl ?_)
            refine vl_v (q_assign rfl) rfl ?_
            refine vl_nil ?_
            refine (th_n ?_)
            refine VC_ret ?_
            refine ⟨_, res1 rfl rfl, ?_⟩
            exact congrArg (fun b => Ending.returned (Value.bool b)) (by rw [hre2]; (first | rw [decide_eq_true hs5, decide_eq_true hs9, decide_eq_true hs14, decide_eq_true hs19] | rw [decide_eq_true hs5, decide_eq_true hs9, decide_eq_true hs14, decide_eq_false hs19] | rw [decide_eq_true hs5, decide_eq_true hs9, decide_eq_false hs14] | rw [decide_eq_true hs5, decide_eq_false hs9] | rw [decide_eq_false hs5]) <;> rfl)
        · skip
          rw [show decide (0 ≤ t) = false from decide_eq_false hs14]
          first | (refine vl_v (q_pickT rfl rfl) rfl ?_) | (refine vl_v (q_pickF rfl rfl) rfl ?_)
          refine vl_v (q_move rfl) rfl ?_
          refine vl_skip rfl rfl ?_
          refine vl_skip rfl rfl ?_
          refine vl_skip rfl rfl ?_
          first | (refine vl_v (q_pickT rfl rfl) rfl ?_) | (refine vl_v (q_pickF rfl rfl) rfl ?_)
          refine vl_v (q_move rfl) rfl ?_
          refine vl_skip rfl rfl ?_
          refine vl_skip rfl rfl ?_
          refine vl_skip rfl rfl ?_
          first | (refine vl_v (q_pickT rfl rfl) rfl ?_) | (refine vl_v (q_pickF rfl rfl) rfl ?_)
          refine vl_v (q_move rfl) rfl ?_
          refine vl_skip rfl rfl ?_
          refine vl_skip rfl rfl ?_
          refine vl_skip rfl rfl ?_
          refine vl_skip rfl rfl ?_
          first | (refine vl_v (q_pickT rfl rfl) rfl ?_) | (refine vl_v (q_pickF rfl rfl) rfl ?_)
          refine vl_v (q_assign rfl) rfl ?_
          refine vl_nil ?_
          refine (th_n ?_)
          refine VC_ret ?_
          refine ⟨_, res1 rfl rfl, ?_⟩
          exact congrArg (fun b => Ending.returned (Value.bool b)) (by rw [hre2]; (first | rw [decide_eq_true hs5, decide_eq_true hs9, decide_eq_true hs14, decide_eq_true hs19] | rw [decide_eq_true hs5, decide_eq_true hs9, decide_eq_true hs14, decide_eq_false hs19] | rw [decide_eq_true hs5, decide_eq_true hs9, decide_eq_false hs14] | rw [decide_eq_true hs5, decide_eq_false hs9] | rw [decide_eq_false hs5]) <;> rfl)
      · skip
        rw [show decide (f ≤ 7) = false from decide_eq_false hs9]
        first | (refine vl_v (q_pickT rfl rfl) rfl ?_) | (refine vl_v (q_pickF rfl rfl) rfl ?_)
        refine vl_v (q_move rfl) rfl ?_
        refine vl_skip rfl rfl ?_
        refine vl_skip rfl rfl ?_
        refine vl_skip rfl rfl ?_
        first | (refine vl_v (q_pickT rfl rfl) rfl ?_) | (refine vl_v (q_pickF rfl rfl) rfl ?_)
        refine vl_v (q_move rfl) rfl ?_
        refine vl_skip rfl rfl ?_
        refine vl_skip rfl rfl ?_
        refine vl_skip rfl rfl ?_
        first | (refine vl_v (q_pickT rfl rfl) rfl ?_) | (refine vl_v (q_pickF rfl rfl) rfl ?_)
        refine vl_v (q_move rfl) rfl ?_
        refine vl_skip rfl rfl ?_
        refine vl_skip rfl rfl ?_
        refine vl_skip rfl rfl ?_
        first | (refine vl_v (q_pickT rfl rfl) rfl ?_) | (refine vl_v (q_pickF rfl rfl) rfl ?_)
        refine vl_v (q_move rfl) rfl ?_
        refine vl_skip rfl rfl ?_
        refine vl_skip rfl rfl ?_
        refine vl_skip rfl rfl ?_
        refine vl_skip rfl rfl ?_
        first | (refine vl_v (q_pickT rfl rfl) rfl ?_) | (refine vl_v (q_pickF rfl rfl) rfl ?_)
        refine vl_v (q_assign rfl) rfl ?_
        refine vl_nil ?_
        refine (th_n ?_)
        refine VC_ret ?_
        refine ⟨_, res1 rfl rfl, ?_⟩
        exact congrArg (fun b => Ending.returned (Value.bool b)) (by rw [hre2]; (first | rw [decide_eq_true hs5, decide_eq_true hs9, decide_eq_true hs14, decide_eq_true hs19] | rw [decide_eq_true hs5, decide_eq_true hs9, decide_eq_true hs14, decide_eq_false hs19] | rw [decide_eq_true hs5, decide_eq_true hs9, decide_eq_false hs14] | rw [decide_eq_true hs5, decide_eq_false hs9] | rw [decide_eq_false hs5]) <;> rfl)
    · skip
      rw [show decide (0 ≤ f) = false from decide_eq_false hs5]
      refine vl_v (q_move rfl) rfl ?_
      refine vl_skip rfl rfl ?_
      refine vl_skip rfl rfl ?_
      refine vl_skip rfl rfl ?_
      first | (refine vl_v (q_pickT rfl rfl) rfl ?_) | (refine vl_v (q_pickF rfl rfl) rfl ?_)
      refine vl_v (q_move rfl) rfl ?_
      refine vl_skip rfl rfl ?_
      refine vl_skip rfl rfl ?_
      refine vl_skip rfl rfl ?_
      first | (refine vl_v (q_pickT rfl rfl) rfl ?_) | (refine vl_v (q_pickF rfl rfl) rfl ?_)
      refine vl_v (q_move rfl) rfl ?_
      refine vl_skip rfl rfl ?_
      refine vl_skip rfl rfl ?_
      refine vl_skip rfl rfl ?_
      first | (refine vl_v (q_pickT rfl rfl) rfl ?_) | (refine vl_v (q_pickF rfl rfl) rfl ?_)
      refine vl_v (q_move rfl) rfl ?_
      refine vl_skip rfl rfl ?_
      refine vl_skip rfl rfl ?_
      refine vl_skip rfl rfl ?_
      first | (refine vl_v (q_pickT rfl rfl) rfl ?_) | (refine vl_v (q_pickF rfl rfl) rfl ?_)
      refine vl_v (q_move rfl) rfl ?_
      refine vl_skip rfl rfl ?_
      refine vl_skip rfl rfl ?_
      refine vl_skip rfl rfl ?_
      refine vl_skip rfl rfl ?_
      first | (refine vl_v (q_pickT rfl rfl) rfl ?_) | (refine vl_v (q_pickF rfl rfl) rfl ?_)
      refine vl_v (q_assign rfl) rfl ?_
      refine vl_nil ?_
      refine (th_n ?_)
      refine VC_ret ?_
      refine ⟨_, res1 rfl rfl, ?_⟩
      exact congrArg (fun b => Ending.returned (Value.bool b)) (by rw [hre2]; (first | rw [decide_eq_true hs5, decide_eq_true hs9, decide_eq_true hs14, decide_eq_true hs19] | rw [decide_eq_true hs5, decide_eq_true hs9, decide_eq_true hs14, decide_eq_false hs19] | rw [decide_eq_true hs5, decide_eq_true hs9, decide_eq_false hs14] | rw [decide_eq_true hs5, decide_eq_false hs9] | rw [decide_eq_false hs5]) <;> rfl)
end Go.Proofs.Ytpjjledbmfmbiaa
