/- Words and laws that the proofs of this seat share, part 3 of 4. No condition. -/
import Derived.Test.YtadaihpeionniaaQ19pb
section
namespace Go.Proofs.Ytadaihpeionniaa
open Go.RowKit Go.PBYtadaihpeionniaa
set_option linter.unusedVariables false
set_option linter.unusedSimpArgs false
set_option maxRecDepth 10000
theorem hrightE_calls (f t : Int) (cm pub : List UInt8) (p q : Int) (n cB : Nat) (B : Option Addr) (hc : cm.length = 32) (hp : pub.length = 32) (w : World) :
    Calls Try.prog 20 #[.agg (envC f t cm pub p q (.slice B n cB)).toArray] w fun e w' => e = .returned (.bool (rightEB f t p q n)) ∧ Kept [] w w' := by
  have hF := envC_f (f := f) (t := t) (p := p) (q := q) (sl := .slice B n cB) hc hp
  obtain ⟨c, hcc⟩ : ∃ c, envC f t cm pub p q (.slice B n cB) = c := ⟨_, rfl⟩
  rw [hcc] at hF ⊢
  obtain ⟨h0, g0, g1, g2, g3, g4⟩ := hF
  have hh := headC_length hp p q
  obtain ⟨r, hr⟩ : ∃ r, rightB p q = r := ⟨_, rfl⟩
  have hri := hright_calls pub p q hp
  rw [hr] at hri
  have hre : rightEB f t p q n = (decide (0 ≤ min f t) && decide (max f t < 8) && r && decide (n ≤ 600)) := by rw [← hr]; rfl
  have hre2 : rightEB f t p q n = (decide (0 ≤ f) && decide (f ≤ 7) && decide (0 ≤ t) && decide (t ≤ 7) && r && decide (n ≤ 600)) := by
    rw [Bool.eq_iff_iff, rightEB_iff, hr]
    simp only [Bool.and_eq_true, decide_eq_true_iff, and_assoc]
  refine enter (n := 28) (R := fun e L => e = .returned (.bool (rightEB f t p q n))) [.agg c.toArray] Try.func20 rfl rfl rfl (St.refl w) ?_ (fun e w' L' h H => ⟨h, H.kept⟩)
  cases r
  · skip
    refine VC_seq ?_
    refine VC_region ?_
    refine l_boxA rfl rfl ?_
    intro b1
    refine vl_v (q_assign rfl) rfl ?_
    refine vl_nil ?_
    refine (th_n ?_)
    refine VC_seq ?_
    refine VC_region ?_
    refine vl_v (q_fldA fo36_0 (by decide) rfl rfl) rfl ?_
    refine vl_v (q_load 0 Try.underlying3 rfl rfl rfl g0) rfl ?_
    refine vl_v (q_fldA fo36_1 (by decide) rfl rfl) rfl ?_
    refine vl_v (q_load 0 Try.underlying3 rfl rfl rfl g1) rfl ?_
    refine vl_v (q_minI rfl rfl) rfl ?_
    refine vl_v (q_geq_k Try.underlying3 rfl rfl) rfl ?_
    by_cases hs8 : 0 ≤ min f t
    · skip
      rw [show decide (0 ≤ min f t) = true from decide_eq_true hs8]
      refine vl_v (q_move rfl) rfl ?_
      refine vl_vg rfl (q_fldA fo36_0 (by decide) rfl rfl) rfl ?_
      refine vl_vg rfl (q_load 0 Try.underlying3 rfl rfl rfl g0) rfl ?_
      refine vl_vg rfl (q_fldA fo36_1 (by decide) rfl rfl) rfl ?_
      refine vl_vg rfl (q_load 0 Try.underlying3 rfl rfl rfl g1) rfl ?_
      refine vl_vg rfl (q_maxI rfl rfl) rfl ?_
      refine vl_vg rfl (q_lss_k Try.underlying3 rfl rfl) rfl ?_
      by_cases hs15 : max f t < 8
      · skip
        rw [show decide (max f t < 8) = true from decide_eq_true hs15]
        refine vl_v (q_pickT rfl rfl) rfl ?_
        refine vl_v (q_move rfl) rfl ?_
        refine vl_vg rfl (q_fldA fo36_3 (by decide) rfl rfl) rfl ?_
        refine vl_vg rfl (q_loadsAt 0 Try.underlying33 rfl rfl rfl sz33 g3 hh) rfl ?_
        refine vl_vg rfl (q_callV Try.func24 rfl rfl rfl (fun w1 H1 => hri w1)) rfl ?_
        refine vl_v (q_pickT rfl rfl) rfl ?_
        refine vl_v (q_move rfl) rfl ?_
        refine vl_skip rfl rfl ?_
        refine vl_skip rfl rfl ?_
        refine vl_skip rfl rfl ?_
        refine vl_skip rfl rfl ?_
        refine vl_v (q_pickF rfl rfl) rfl ?_
        refine vl_v (q_assign rfl) rfl ?_
        refine vl_nil ?_
        refine (th_n ?_)
        refine VC_ret ?_
        refine ⟨_, res1 rfl rfl, ?_⟩
        exact congrArg (fun b => Ending.returned (Value.bool b)) (by rw [hre]; (first | rw [decide_eq_true hs8, decide_eq_true hs15] | rw [decide_eq_true hs8, decide_eq_false hs15] | rw [decide_eq_false hs8]) <;> rfl)
      · skip
        rw [show decide (max f t < 8) = false from decide_eq_false hs15]
        refine vl_v (q_pickT rfl rfl) rfl ?_
        refine vl_v (q_move rfl) rfl ?_
        refine vl_skip rfl rfl ?_
        refine vl_skip rfl rfl ?_
        refine vl_skip rfl rfl ?_
        refine vl_v (q_pickF rfl rfl) rfl ?_
        refine vl_v (q_move rfl) rfl ?_
        refine vl_skip rfl rfl ?_
        refine vl_skip rfl rfl ?_
        refine vl_skip rfl rfl ?_
        refine vl_skip rfl rfl ?_
        refine vl_v (q_pickF rfl rfl) rfl ?_
        refine vl_v (q_assign rfl) rfl ?_
        refine vl_nil ?_
        refine (th_n ?_)
        refine VC_ret ?_
        refine ⟨_, res1 rfl rfl, ?_⟩
        exact congrArg (fun b => Ending.returned (Value.bool b)) (by rw [hre]; (first | rw [decide_eq_true hs8, decide_eq_true hs15] | rw [decide_eq_true hs8, decide_eq_false hs15] | rw [decide_eq_false hs8]) <;> rfl)
    · skip
      rw [show decide (0 ≤ min f t) = false from decide_eq_false hs8]
      refine vl_v (q_move rfl) rfl ?_
      refine vl_skip rfl rfl ?_
      refine vl_skip rfl rfl ?_
      refine vl_skip rfl rfl ?_
      refine vl_skip rfl rfl ?_
      refine vl_skip rfl rfl ?_
      refine vl_skip rfl rfl ?_
      refine vl_v (q_pickF rfl rfl) rfl ?_
      refine vl_v (q_move rfl) rfl ?_
      refine vl_skip rfl rfl ?_
      refine vl_skip rfl rfl ?_
      refine vl_skip rfl rfl ?_
      refine vl_v (q_pickF rfl rfl) rfl ?_
      refine vl_v (q_move rfl) rfl ?_
      refine vl_skip rfl rfl ?_
      refine vl_skip rfl rfl ?_
      refine vl_skip rfl rfl ?_
      refine vl_skip rfl rfl ?_
      refine vl_v (q_pickF rfl rfl) rfl ?_
      refine vl_v (q_assign rfl) rfl ?_
      refine vl_nil ?_
      refine (th_n ?_)
      refine VC_ret ?_
      refine ⟨_, res1 rfl rfl, ?_⟩
      exact congrArg (fun b => Ending.returned (Value.bool b)) (by rw [hre]; (first | rw [decide_eq_true hs8, decide_eq_true hs15] | rw [decide_eq_true hs8, decide_eq_false hs15] | rw [decide_eq_false hs8]) <;> rfl)
  · skip
    refine VC_seq ?_
    refine VC_region ?_
    refine l_boxA rfl rfl ?_
    intro b1
    refine vl_v (q_assign rfl) rfl ?_
    refine vl_nil ?_
    refine (th_n ?_)
    refine VC_seq ?_
    refine VC_region ?_
    refine vl_v (q_fldA fo36_0 (by decide) rfl rfl) rfl ?_
    refine vl_v (q_load 0 Try.underlying3 rfl rfl rfl g0) rfl ?_
    refine vl_v (q_fldA fo36_1 (by decide) rfl rfl) rfl ?_
    refine vl_v (q_load 0 Try.underlying3 rfl rfl rfl g1) rfl ?_
    refine vl_v (q_minI rfl rfl) rfl ?_
    refine vl_v (q_geq_k Try.underlying3 rfl rfl) rfl ?_
    by_cases hs8 : 0 ≤ min f t
    · skip
      rw [show decide (0 ≤ min f t) = true from decide_eq_true hs8]
      refine vl_v (q_move rfl) rfl ?_
      refine vl_vg rfl (q_fldA fo36_0 (by decide) rfl rfl) rfl ?_
      refine vl_vg rfl (q_load 0 Try.underlying3 rfl rfl rfl g0) rfl ?_
      refine vl_vg rfl (q_fldA fo36_1 (by decide) rfl rfl) rfl ?_
      refine vl_vg rfl (q_load 0 Try.underlying3 rfl rfl rfl g1) rfl ?_
      refine vl_vg rfl (q_maxI rfl rfl) rfl ?_
      refine vl_vg rfl (q_lss_k Try.underlying3 rfl rfl) rfl ?_
      by_cases hs15 : max f t < 8
      · skip
        rw [show decide (max f t < 8) = true from decide_eq_true hs15]
        refine vl_v (q_pickT rfl rfl) rfl ?_
        refine vl_v (q_move rfl) rfl ?_
        refine vl_vg rfl (q_fldA fo36_3 (by decide) rfl rfl) rfl ?_
        refine vl_vg rfl (q_loadsAt 0 Try.underlying33 rfl rfl rfl sz33 g3 hh) rfl ?_
        refine vl_vg rfl (q_callV Try.func24 rfl rfl rfl (fun w1 H1 => hri w1)) rfl ?_
        refine vl_v (q_pickT rfl rfl) rfl ?_
        refine vl_v (q_move rfl) rfl ?_
        refine vl_vg rfl (q_fldA fo36_4 (by decide) rfl rfl) rfl ?_
        refine vl_vg rfl (q_load 0 Try.underlying34 rfl rfl rfl g4) rfl ?_
        refine vl_vg rfl (q_lenS Try.underlying34 rfl) rfl ?_
        refine vl_vg rfl (q_leq_n (q := 600) Try.underlying3 rfl rfl) rfl ?_
        refine vl_v (q_pickT rfl rfl) rfl ?_
        refine vl_v (q_assign rfl) rfl ?_
        refine vl_nil ?_
        refine (th_n ?_)
        refine VC_ret ?_
        refine ⟨_, res1 rfl rfl, ?_⟩
        exact congrArg (fun b => Ending.returned (Value.bool b)) (by rw [hre]; (first | rw [decide_eq_true hs8, decide_eq_true hs15] | rw [decide_eq_true hs8, decide_eq_false hs15] | rw [decide_eq_false hs8]) <;> rfl)
      · skip
        rw [show decide (max f t < 8) = false from decide_eq_false hs15]
        refine vl_v (q_pickT rfl rfl) rfl ?_
        refine vl_v (q_move rfl) rfl ?_
        refine vl_skip rfl rfl ?_
        refine vl_skip rfl rfl ?_
        refine vl_skip rfl rfl ?_
        refine vl_v (q_pickF rfl rfl) rfl ?_
        refine vl_v (q_move rfl) rfl ?_
        refine vl_skip rfl rfl ?_
        refine vl_skip rfl rfl ?_
        refine vl_skip rfl rfl ?_
        refine vl_skip rfl rfl ?_
        refine vl_v (q_pickF rfl rfl) rfl ?_
        refine vl_v (q_assign rfl) rfl ?_
        refine vl_nil ?_
        refine (th_n ?_)
        refine VC_ret ?_
        refine ⟨_, res1 rfl rfl, ?_⟩
        exact congrArg (fun b => Ending.returned (Value.bool b)) (by rw [hre]; (first | rw [decide_eq_true hs8, decide_eq_true hs15] | rw [decide_eq_true hs8, decide_eq_false hs15] | rw [decide_eq_false hs8]) <;> rfl)
    · skip
      rw [show decide (0 ≤ min f t) = false from decide_eq_false hs8]
      refine vl_v (q_move rfl) rfl ?_
      refine vl_skip rfl rfl ?_
      refine vl_skip rfl rfl ?_
      refine vl_skip rfl rfl ?_
      refine vl_skip rfl rfl ?_
      refine vl_skip rfl rfl ?_
      refine vl_skip rfl rfl ?_
      refine vl_v (q_pickF rfl rfl) rfl ?_
      refine vl_v (q_move rfl) rfl ?_
      refine vl_skip rfl rfl ?_
      refine vl_skip rfl rfl ?_
      refine vl_skip rfl rfl ?_
      refine vl_v (q_pickF rfl rfl) rfl ?_
      refine vl_v (q_move rfl) rfl ?_
      refine vl_skip rfl rfl ?_
      refine vl_skip rfl rfl ?_
      refine vl_skip rfl rfl ?_
      refine vl_skip rfl rfl ?_
      refine vl_v (q_pickF rfl rfl) rfl ?_
      refine vl_v (q_assign rfl) rfl ?_
      refine vl_nil ?_
      refine (th_n ?_)
      refine VC_ret ?_
      refine ⟨_, res1 rfl rfl, ?_⟩
      exact congrArg (fun b => Ending.returned (Value.bool b)) (by rw [hre]; (first | rw [decide_eq_true hs8, decide_eq_true hs15] | rw [decide_eq_true hs8, decide_eq_false hs15] | rw [decide_eq_false hs8]) <;> rfl)
theorem rrightE_calls (f t : Int) (cm pub : List UInt8) (p q : Int) (n cB : Nat) (B : Option Addr) (hc : cm.length = 32) (hp : pub.length = 32) (w : World) :
    Calls Try.prog 17 #[.agg (envC f t cm pub p q (.slice B n cB)).toArray] w fun e w' => e = .returned (.bool (rightEB f t p q n)) ∧ Kept [] w w' := by
  have hF := envC_f (f := f) (t := t) (p := p) (q := q) (sl := .slice B n cB) hc hp
  obtain ⟨c, hcc⟩ : ∃ c, envC f t cm pub p q (.slice B n cB) = c := ⟨_, rfl⟩
  rw [hcc] at hF ⊢
  obtain ⟨h0, g0, g1, g2, g3, g4⟩ := hF
  have hh := headC_length hp p q
  obtain ⟨r, hr⟩ : ∃ r, rightB p q = r := ⟨_, rfl⟩
  have hri := rright_calls pub p q hp
  rw [hr] at hri
  have hre : rightEB f t p q n = (decide (0 ≤ min f t) && decide (max f t < 8) && r && decide (n ≤ 600)) := by rw [← hr]; rfl
  have hre2 : rightEB f t p q n = (decide (0 ≤ f) && decide (f ≤ 7) && decide (0 ≤ t) && decide (t ≤ 7) && r && decide (n ≤ 600)) := by
    rw [Bool.eq_iff_iff, rightEB_iff, hr]
    simp only [Bool.and_eq_true, decide_eq_true_iff, and_assoc]
  refine enter (n := 32) (R := fun e L => e = .returned (.bool (rightEB f t p q n))) [.agg c.toArray] Try.func17 rfl rfl rfl (St.refl w) ?_ (fun e w' L' h H => ⟨h, H.kept⟩)
  cases r
  · skip
    refine VC_seq ?_
    refine VC_region ?_
    refine l_boxA rfl rfl ?_
    intro b1
    refine vl_v (q_assign rfl) rfl ?_
    refine vl_nil ?_
    refine (th_n ?_)
    refine VC_seq ?_
    refine VC_region ?_
    refine vl_v (q_fldA fo36_0 (by decide) rfl rfl) rfl ?_
    refine vl_v (q_load 0 Try.underlying3 rfl rfl rfl g0) rfl ?_
    refine vl_v (q_geq_k Try.underlying3 rfl rfl) rfl ?_
    by_cases hs5 : 0 ≤ f
    · skip
      rw [show decide (0 ≤ f) = true from decide_eq_true hs5]
      refine vl_v (q_move rfl) rfl ?_
      refine vl_vg rfl (q_fldA fo36_0 (by decide) rfl rfl) rfl ?_
      refine vl_vg rfl (q_load 0 Try.underlying3 rfl rfl rfl g0) rfl ?_
      refine vl_vg rfl (q_leq_k Try.underlying3 rfl rfl) rfl ?_
      by_cases hs9 : f ≤ 7
      · skip
        rw [show decide (f ≤ 7) = true from decide_eq_true hs9]
        refine vl_v (q_pickT rfl rfl) rfl ?_
        refine vl_v (q_move rfl) rfl ?_
        refine vl_vg rfl (q_fldA fo36_1 (by decide) rfl rfl) rfl ?_
        refine vl_vg rfl (q_load 0 Try.underlying3 rfl rfl rfl g1) rfl ?_
        refine vl_vg rfl (q_geq_k Try.underlying3 rfl rfl) rfl ?_
        by_cases hs14 : 0 ≤ t
        · skip
          rw [show decide (0 ≤ t) = true from decide_eq_true hs14]
          refine vl_v (q_pickT rfl rfl) rfl ?_
          refine vl_v (q_move rfl) rfl ?_
          refine vl_vg rfl (q_fldA fo36_1 (by decide) rfl rfl) rfl ?_
          refine vl_vg rfl (q_load 0 Try.underlying3 rfl rfl rfl g1) rfl ?_
          refine vl_vg rfl (q_leq_k Try.underlying3 rfl rfl) rfl ?_
          by_cases hs19 : t ≤ 7
          · skip
            rw [show decide (t ≤ 7) = true from decide_eq_true hs19]
            refine vl_v (q_pickT rfl rfl) rfl ?_
            refine vl_v (q_move rfl) rfl ?_
            refine vl_vg rfl (q_fldA fo36_3 (by decide) rfl rfl) rfl ?_
            refine vl_vg rfl (q_loadsAt 0 Try.underlying33 rfl rfl rfl sz33 g3 hh) rfl ?_
            refine vl_vg rfl (q_callV Try.func23 rfl rfl rfl (fun w1 H1 => hri w1)) rfl ?_
            refine vl_v (q_pickT rfl rfl) rfl ?_
            refine vl_v (q_move rfl) rfl ?_
            refine vl_skip rfl rfl ?_
            refine vl_skip rfl rfl ?_
            refine vl_skip rfl rfl ?_
            refine vl_skip rfl rfl ?_
            refine vl_v (q_pickF rfl rfl) rfl ?_
            refine vl_v (q_assign rfl) rfl ?_
            refine vl_nil ?_
            refine (th_n ?_)
            refine VC_ret ?_
            refine ⟨_, res1 rfl rfl, ?_⟩
            exact congrArg (fun b => Ending.returned (Value.bool b)) (by rw [hre2]; (first | rw [decide_eq_true hs5, decide_eq_true hs9, decide_eq_true hs14, decide_eq_true hs19] | rw [decide_eq_true hs5, decide_eq_true hs9, decide_eq_true hs14, decide_eq_false hs19] | rw [decide_eq_true hs5, decide_eq_true hs9, decide_eq_false hs14] | rw [decide_eq_true hs5, decide_eq_false hs9] | rw [decide_eq_false hs5]) <;> rfl)
          · skip
            rw [show decide (t ≤ 7) = false from decide_eq_false hs19]
            refine vl_v (q_pickT rfl rfl) rfl ?_
            refine vl_v (q_move rfl) rfl ?_
            refine vl_skip rfl rfl ?_
            refine vl_skip rfl rfl ?_
            refine vl_skip rfl rfl ?_
            refine vl_v (q_pickF rfl rfl) rfl ?_
            refine vl_v (q_move rfl) rfl ?_
            refine vl_skip rfl rfl ?_
            refine vl_skip rfl rfl ?_
            refine vl_skip rfl rfl ?_
            refine vl_skip rfl rfl ?_
            refine vl_v (q_pickF rfl rfl) rfl ?_
            refine vl_v (q_assign rfl) rfl ?_
            refine vl_nil ?_
            refine (th_n ?_)
            refine VC_ret ?_
            refine ⟨_, res1 rfl rfl, ?_⟩
            exact congrArg (fun b => Ending.returned (Value.bool b)) (by rw [hre2]; (first | rw [decide_eq_true hs5, decide_eq_true hs9, decide_eq_true hs14, decide_eq_true hs19] | rw [decide_eq_true hs5, decide_eq_true hs9, decide_eq_true hs14, decide_eq_false hs19] | rw [decide_eq_true hs5, decide_eq_true hs9, decide_eq_false hs14] | rw [decide_eq_true hs5, decide_eq_false hs9] | rw [decide_eq_false hs5]) <;> rfl)
        · skip
          rw [show decide (0 ≤ t) = false from decide_eq_false hs14]
          refine vl_v (q_pickT rfl rfl) rfl ?_
          refine vl_v (q_move rfl) rfl ?_
          refine vl_skip rfl rfl ?_
          refine vl_skip rfl rfl ?_
          refine vl_skip rfl rfl ?_
          refine vl_v (q_pickF rfl rfl) rfl ?_
          refine vl_v (q_move rfl) rfl ?_
          refine vl_skip rfl rfl ?_
          refine vl_skip rfl rfl ?_
          refine vl_skip rfl rfl ?_
          refine vl_v (q_pickF rfl rfl) rfl ?_
          refine vl_v (q_move rfl) rfl ?_
          refine vl_skip rfl rfl ?_
          refine vl_skip rfl rfl ?_
          refine vl_skip rfl rfl ?_
          refine vl_skip rfl rfl ?_
          refine vl_v (q_pickF rfl rfl) rfl ?_
          refine vl_v (q_assign rfl) rfl ?_
          refine vl_nil ?_
          refine (th_n ?_)
          refine VC_ret ?_
          refine ⟨_, res1 rfl rfl, ?_⟩
          exact congrArg (fun b => Ending.returned (Value.bool b)) (by rw [hre2]; (first | rw [decide_eq_true hs5, decide_eq_true hs9, decide_eq_true hs14, decide_eq_true hs19] | rw [decide_eq_true hs5, decide_eq_true hs9, decide_eq_true hs14, decide_eq_false hs19] | rw [decide_eq_true hs5, decide_eq_true hs9, decide_eq_false hs14] | rw [decide_eq_true hs5, decide_eq_false hs9] | rw [decide_eq_false hs5]) <;> rfl)
      · skip
        rw [show decide (f ≤ 7) = false from decide_eq_false hs9]
        refine vl_v (q_pickT rfl rfl) rfl ?_
        refine vl_v (q_move rfl) rfl ?_
        refine vl_skip rfl rfl ?_
        refine vl_skip rfl rfl ?_
        refine vl_skip rfl rfl ?_
        refine vl_v (q_pickF rfl rfl) rfl ?_
        refine vl_v (q_move rfl) rfl ?_
        refine vl_skip rfl rfl ?_
        refine vl_skip rfl rfl ?_
        refine vl_skip rfl rfl ?_
        refine vl_v (q_pickF rfl rfl) rfl ?_
        refine vl_v (q_move rfl) rfl ?_
        refine vl_skip rfl rfl ?_
        refine vl_skip rfl rfl ?_
        refine vl_skip rfl rfl ?_
        refine vl_v (q_pickF rfl rfl) rfl ?_
        refine vl_v (q_move rfl) rfl ?_
        refine vl_skip rfl rfl ?_
        refine vl_skip rfl rfl ?_
        refine vl_skip rfl rfl ?_
        refine vl_skip rfl rfl ?_
        refine vl_v (q_pickF rfl rfl) rfl ?_
        refine vl_v (q_assign rfl) rfl ?_
        refine vl_nil ?_
        refine (th_n ?_)
        refine VC_ret ?_
        refine ⟨_, res1 rfl rfl, ?_⟩
        exact congrArg (fun b => Ending.returned (Value.bool b)) (by rw [hre2]; (first | rw [decide_eq_true hs5, decide_eq_true hs9, decide_eq_true hs14, decide_eq_true hs19] | rw [decide_eq_true hs5, decide_eq_true hs9, decide_eq_true hs14, decide_eq_false hs19] | rw [decide_eq_true hs5, decide_eq_true hs9, decide_eq_false hs14] | rw [decide_eq_true hs5, decide_eq_false hs9] | rw [decide_eq_false hs5]) <;> rfl)
    · skip
      rw [show decide (0 ≤ f) = false from decide_eq_false hs5]
      refine vl_v (q_move rfl) rfl ?_
      refine vl_skip rfl rfl ?_
      refine vl_skip rfl rfl ?_
      refine vl_skip rfl rfl ?_
      refine vl_v (q_pickF rfl rfl) rfl ?_
      refine vl_v (q_move rfl) rfl ?_
      refine vl_skip rfl rfl ?_
      refine vl_skip rfl rfl ?_
      refine vl_skip rfl rfl ?_
      refine vl_v (q_pickF rfl rfl) rfl ?_
      refine vl_v (q_move rfl) rfl ?_
      refine vl_skip rfl rfl ?_
      refine vl_skip rfl rfl ?_
      refine vl_skip rfl rfl ?_
      refine vl_v (q_pickF rfl rfl) rfl ?_
      refine vl_v (q_move rfl) rfl ?_
      refine vl_skip rfl rfl ?_
      refine vl_skip rfl rfl ?_
      refine vl_skip rfl rfl ?_
      refine vl_v (q_pickF rfl rfl) rfl ?_
      refine vl_v (q_move rfl) rfl ?_
      refine vl_skip rfl rfl ?_
      refine vl_skip rfl rfl ?_
      refine vl_skip rfl rfl ?_
      refine vl_skip rfl rfl ?_
      refine vl_v (q_pickF rfl rfl) rfl ?_
      refine vl_v (q_assign rfl) rfl ?_
      refine vl_nil ?_
      refine (th_n ?_)
      refine VC_ret ?_
      refine ⟨_, res1 rfl rfl, ?_⟩
      exact congrArg (fun b => Ending.returned (Value.bool b)) (by rw [hre2]; (first | rw [decide_eq_true hs5, decide_eq_true hs9, decide_eq_true hs14, decide_eq_true hs19] | rw [decide_eq_true hs5, decide_eq_true hs9, decide_eq_true hs14, decide_eq_false hs19] | rw [decide_eq_true hs5, decide_eq_true hs9, decide_eq_false hs14] | rw [decide_eq_true hs5, decide_eq_false hs9] | rw [decide_eq_false hs5]) <;> rfl)
  · skip
    refine VC_seq ?_
    refine VC_region ?_
    refine l_boxA rfl rfl ?_
    intro b1
    refine vl_v (q_assign rfl) rfl ?_
    refine vl_nil ?_
    refine (th_n ?_)
    refine VC_seq ?_
    refine VC_region ?_
    refine vl_v (q_fldA fo36_0 (by decide) rfl rfl) rfl ?_
    refine vl_v (q_load 0 Try.underlying3 rfl rfl rfl g0) rfl ?_
    refine vl_v (q_geq_k Try.underlying3 rfl rfl) rfl ?_
    by_cases hs5 : 0 ≤ f
    · skip
      rw [show decide (0 ≤ f) = true from decide_eq_true hs5]
      refine vl_v (q_move rfl) rfl ?_
      refine vl_vg rfl (q_fldA fo36_0 (by decide) rfl rfl) rfl ?_
      refine vl_vg rfl (q_load 0 Try.underlying3 rfl rfl rfl g0) rfl ?_
      refine vl_vg rfl (q_leq_k Try.underlying3 rfl rfl) rfl ?_
      by_cases hs9 : f ≤ 7
      · skip
        rw [show decide (f ≤ 7) = true from decide_eq_true hs9]
        refine vl_v (q_pickT rfl rfl) rfl ?_
        refine vl_v (q_move rfl) rfl ?_
        refine vl_vg rfl (q_fldA fo36_1 (by decide) rfl rfl) rfl ?_
        refine vl_vg rfl (q_load 0 Try.underlying3 rfl rfl rfl g1) rfl ?_
        refine vl_vg rfl (q_geq_k Try.underlying3 rfl rfl) rfl ?_
        by_cases hs14 : 0 ≤ t
        · skip
          rw [show decide (0 ≤ t) = true from decide_eq_true hs14]
          refine vl_v (q_pickT rfl rfl) rfl ?_
          refine vl_v (q_move rfl) rfl ?_
          refine vl_vg rfl (q_fldA fo36_1 (by decide) rfl rfl) rfl ?_
          refine vl_vg rfl (q_load 0 Try.underlying3 rfl rfl rfl g1) rfl ?_
          refine vl_vg rfl (q_leq_k Try.underlying3 rfl rfl) rfl ?_
          by_cases hs19 : t ≤ 7
          · skip
            rw [show decide (t ≤ 7) = true from decide_eq_true hs19]
            refine vl_v (q_pickT rfl rfl) rfl ?_
            refine vl_v (q_move rfl) rfl ?_
            refine vl_vg rfl (q_fldA fo36_3 (by decide) rfl rfl) rfl ?_
            refine vl_vg rfl (q_loadsAt 0 Try.underlying33 rfl rfl rfl sz33 g3 hh) rfl ?_
            refine vl_vg rfl (q_callV Try.func23 rfl rfl rfl (fun w1 H1 => hri w1)) rfl ?_
            refine vl_v (q_pickT rfl rfl) rfl ?_
            refine vl_v (q_move rfl) rfl ?_
            refine vl_vg rfl (q_fldA fo36_4 (by decide) rfl rfl) rfl ?_
            refine vl_vg rfl (q_load 0 Try.underlying34 rfl rfl rfl g4) rfl ?_
            refine vl_vg rfl (q_lenS Try.underlying34 rfl) rfl ?_
            refine vl_vg rfl (q_leq_n (q := 600) Try.underlying3 rfl rfl) rfl ?_
            refine vl_v (q_pickT rfl rfl) rfl ?_
            refine vl_v (q_assign rfl) rfl ?_
            refine vl_nil ?_
            refine (th_n ?_)
            refine VC_ret ?_
            refine ⟨_, res1 rfl rfl, ?_⟩
            exact congrArg (fun b => Ending.returned (Value.bool b)) (by rw [hre2]; (first | rw [decide_eq_true hs5, decide_eq_true hs9, decide_eq_true hs14, decide_eq_true hs19] | rw [decide_eq_true hs5, decide_eq_true hs9, decide_eq_true hs14, decide_eq_false hs19] | rw [decide_eq_true hs5, decide_eq_true hs9, decide_eq_false hs14] | rw [decide_eq_true hs5, decide_eq_false hs9] | rw [decide_eq_false hs5]) <;> rfl)
          · skip
            rw [show decide (t ≤ 7) = false from decide_eq_false hs19]
            refine vl_v (q_pickT rfl rfl) rfl ?_
            refine vl_v (q_move rfl) rfl ?_
            refine vl_skip rfl rfl ?_
            refine vl_skip rfl rfl ?_
            refine vl_skip rfl rfl ?_
            refine vl_v (q_pickF rfl rfl) rfl ?_
            refine vl_v (q_move rfl) rfl ?_
            refine vl_skip rfl rfl ?_
            refine vl_skip rfl rfl ?_
            refine vl_skip rfl rfl ?_
            refine vl_skip rfl rfl ?_
            refine vl_v (q_pickF rfl rfl) rfl ?_
            refine vl_v (q_assign rfl) rfl ?_
            refine vl_nil ?_
            refine (th_n ?_)
            refine VC_ret ?_
            refine ⟨_, res1 rfl rfl, ?_⟩
            exact congrArg (fun b => Ending.returned (Value.bool b)) (by rw [hre2]; (first | rw [decide_eq_true hs5, decide_eq_true hs9, decide_eq_true hs14, decide_eq_true hs19] | rw [decide_eq_true hs5, decide_eq_true hs9, decide_eq_true hs14, decide_eq_false hs19] | rw [decide_eq_true hs5, decide_eq_true hs9, decide_eq_false hs14] | rw [decide_eq_true hs5, decide_eq_false hs9] | rw [decide_eq_false hs5]) <;> rfl)
        · skip
          rw [show decide (0 ≤ t) = false from decide_eq_false hs14]
          refine vl_v (q_pickT rfl rfl) rfl ?_
          refine vl_v (q_move rfl) rfl ?_
          refine vl_skip rfl rfl ?_
          refine vl_skip rfl rfl ?_
          refine vl_skip rfl rfl ?_
          refine vl_v (q_pickF rfl rfl) rfl ?_
          refine vl_v (q_move rfl) rfl ?_
          refine vl_skip rfl rfl ?_
          refine vl_skip rfl rfl ?_
          refine vl_skip rfl rfl ?_
          refine vl_v (q_pickF rfl rfl) rfl ?_
          refine vl_v (q_move rfl) rfl ?_
          refine vl_skip rfl rfl ?_
          refine vl_skip rfl rfl ?_
          refine vl_skip rfl rfl ?_
          refine vl_skip rfl rfl ?_
          refine vl_v (q_pickF rfl rfl) rfl ?_
          refine vl_v (q_assign rfl) rfl ?_
          refine vl_nil ?_
          refine (th_n ?_)
          refine VC_ret ?_
          refine ⟨_, res1 rfl rfl, ?_⟩
          exact congrArg (fun b => Ending.returned (Value.bool b)) (by rw [hre2]; (first | rw [decide_eq_true hs5, decide_eq_true hs9, decide_eq_true hs14, decide_eq_true hs19] | rw [decide_eq_true hs5, decide_eq_true hs9, decide_eq_true hs14, decide_eq_false hs19] | rw [decide_eq_true hs5, decide_eq_true hs9, decide_eq_false hs14] | rw [decide_eq_true hs5, decide_eq_false hs9] | rw [decide_eq_false hs5]) <;> rfl)
      · skip
        rw [show decide (f ≤ 7) = false from decide_eq_false hs9]
        refine vl_v (q_pickT rfl rfl) rfl ?_
        refine vl_v (q_move rfl) rfl ?_
        refine vl_skip rfl rfl ?_
        refine vl_skip rfl rfl ?_
        refine vl_skip rfl rfl ?_
        refine vl_v (q_pickF rfl rfl) rfl ?_
        refine vl_v (q_move rfl) rfl ?_
        refine vl_skip rfl rfl ?_
        refine vl_skip rfl rfl ?_
        refine vl_skip rfl rfl ?_
        refine vl_v (q_pickF rfl rfl) rfl ?_
        refine vl_v (q_move rfl) rfl ?_
        refine vl_skip rfl rfl ?_
        refine vl_skip rfl rfl ?_
        refine vl_skip rfl rfl ?_
        refine vl_v (q_pickF rfl rfl) rfl ?_
        refine vl_v (q_move rfl) rfl ?_
        refine vl_skip rfl rfl ?_
        refine vl_skip rfl rfl ?_
        refine vl_skip rfl rfl ?_
        refine vl_skip rfl rfl ?_
        refine vl_v (q_pickF rfl rfl) rfl ?_
        refine vl_v (q_assign rfl) rfl ?_
        refine vl_nil ?_
        refine (th_n ?_)
        refine VC_ret ?_
        refine ⟨_, res1 rfl rfl, ?_⟩
        exact congrArg (fun b => Ending.returned (Value.bool b)) (by rw [hre2]; (first | rw [decide_eq_true hs5, decide_eq_true hs9, decide_eq_true hs14, decide_eq_true hs19] | rw [decide_eq_true hs5, decide_eq_true hs9, decide_eq_true hs14, decide_eq_false hs19] | rw [decide_eq_true hs5, decide_eq_true hs9, decide_eq_false hs14] | rw [decide_eq_true hs5, decide_eq_false hs9] | rw [decide_eq_false hs5]) <;> rfl)
    · skip
      rw [show decide (0 ≤ f) = false from decide_eq_false hs5]
      refine vl_v (q_move rfl) rfl ?_
      refine vl_skip rfl rfl ?_
      refine vl_skip rfl rfl ?_
      refine vl_skip rfl rfl ?_
      refine vl_v (q_pickF rfl rfl) rfl ?_
      refine vl_v (q_move rfl) rfl ?_
      refine vl_skip rfl rfl ?_
      refine vl_skip rfl rfl ?_
      refine vl_skip rfl rfl ?_
      refine vl_v (q_pickF rfl rfl) rfl ?_
      refine vl_v (q_move rfl) rfl ?_
      refine vl_skip rfl rfl ?_
      refine vl_skip rfl rfl ?_
      refine vl_skip rfl rfl ?_
      refine vl_v (q_pickF rfl rfl) rfl ?_
      refine vl_v (q_move rfl) rfl ?_
      refine vl_skip rfl rfl ?_
      refine vl_skip rfl rfl ?_
      refine vl_skip rfl rfl ?_
      refine vl_v (q_pickF rfl rfl) rfl ?_
      refine vl_v (q_move rfl) rfl ?_
      refine vl_skip rfl rfl ?_
      refine vl_skip rfl rfl ?_
      refine vl_skip rfl rfl ?_
      refine vl_skip rfl rfl ?_
      refine vl_v (q_pickF rfl rfl) rfl ?_
      refine vl_v (q_assign rfl) rfl ?_
      refine vl_nil ?_
      refine (th_n ?_)
      refine VC_ret ?_
      refine ⟨_, res1 rfl rfl, ?_⟩
      exact congrArg (fun b => Ending.returned (Value.bool b)) (by rw [hre2]; (first | rw [decide_eq_true hs5, decide_eq_true hs9, decide_eq_true hs14, decide_eq_true hs19] | rw [decide_eq_true hs5, decide_eq_true hs9, decide_eq_true hs14, decide_eq_false hs19] | rw [decide_eq_true hs5, decide_eq_true hs9, decide_eq_false hs14] | rw [decide_eq_true hs5, decide_eq_false hs9] | rw [decide_eq_false hs5]) <;> rfl)
end Go.Proofs.Ytadaihpeionniaa
end
section
namespace Go.Proofs.Ytadaihpeionniaa
open Go.RowKit Go.PBYtadaihpeionniaa
set_option linter.unusedVariables false
set_option linter.unusedSimpArgs false
set_option maxRecDepth 10000
theorem henv_bad (f t : Int) (cm pub : List UInt8) (p q : Int) (n cB : Nat) (B : Option Addr) (hc : cm.length = 32) (hp : pub.length = 32) (hr : rightEB f t p q n = false) (w : World) :
    Calls Try.prog 15 #[.agg (envC f t cm pub p q (.slice B n cB)).toArray] w fun e w' => e = .returned (.tuple #[.slice none 0 0, vN 1]) ∧ Kept [] w w' := by
  have hF := envC_f (f := f) (t := t) (p := p) (q := q) (sl := .slice B n cB) hc hp
  have hE := hrightE_calls f t cm pub p q n cB B hc hp
  rw [hr] at hE
  obtain ⟨c, hcc⟩ : ∃ c, envC f t cm pub p q (.slice B n cB) = c := ⟨_, rfl⟩
  rw [hcc] at hF hE ⊢
  have h0 := hF.len
  refine enter (n := 40) (R := fun e L => e = .returned (.tuple #[.slice none 0 0, vN 1])) [.agg c.toArray] Try.func15 rfl rfl rfl (St.refl w) ?_ (fun e w' L' h H => ⟨h, H.kept⟩)
  refine VC_seq ?_
  refine VC_region ?_
  refine l_boxA rfl rfl ?_
  intro b1
  refine vl_v (q_assign rfl) rfl ?_
  refine vl_v (q_assign rfl) rfl ?_
  refine vl_nil ?_
  refine (th_n ?_)
  refine VC_seq ?_
  refine VC_seq ?_
  refine VC_region ?_
  refine vl_v (q_loads 0 Try.underlying36 rfl rfl rfl sz36 h0) rfl ?_
  refine vl_v (q_callV Try.func20 rfl rfl rfl (fun w1 H1 => hE w1)) rfl ?_
  refine vl_v (q_not rfl) rfl ?_
  refine vl_nil ?_
  refine (th_n ?_)
  refine VC_yes (rfl) ?_
  refine VC_seq ?_
  refine VC_region ?_
  refine vl_v (q_assign rfl) rfl ?_
  refine vl_v (q_assign rfl) rfl ?_
  refine vl_nil ?_
  refine (th_n ?_)
  refine VC_ret ?_
  refine (th_r ?_)
  refine ⟨_, res2 rfl rfl rfl, ?_⟩
  exact rfl
theorem henv_ok (f t : Nat) (cm pub : List UInt8) (x y : Nat) (body : List UInt8) (n cB : Nat) (B : Option Addr) (hn : n = body.length) (hc : cm.length = 32) (hp : pub.length = 32) (hr : rightEB f t x y n = true) (w : World) (hB : SlAt w B (bys body)) :
    Calls Try.prog 15 #[.agg (envC f t cm pub x y (.slice B n cB)).toArray] w fun e w' => ∃ v, e = .returned (.tuple #[v, vN 0]) ∧ St [] w [.row 5 1 v (76 + n) (bys (envB f t cm pub x y body))] w' := by
  have hF := envC_f (f := (f : Int)) (t := (t : Int)) (p := (x : Int)) (q := (y : Int)) (sl := .slice B n cB) hc hp
  have hE := hrightE_calls f t cm pub x y n cB B hc hp
  rw [hr] at hE
  obtain ⟨c, hcc⟩ : ∃ c, envC f t cm pub x y (.slice B n cB) = c := ⟨_, rfl⟩
  rw [hcc] at hF hE ⊢
  obtain ⟨h0, g0, g1, g2, g3, g4⟩ := hF
  have hh := headC_length hp x y
  obtain ⟨h1, h2, h3⟩ := rightEB_iff.1 hr
  have h4 := rightB_iff.1 h2
  have hby := fun w => hbytes_ok pub x y hp (by omega) (by omega) w
  have l1 := headB_length hp x y
  have l2 := highB_length n 2
  have hb : envB f t cm pub x y body = [UInt8.ofNat f, UInt8.ofNat t] ++ cm ++ headB pub x y ++ highB n 2 ++ body := by rw [hn]; rfl
  rw [hb]
  obtain ⟨hB8, eh⟩ : ∃ u, headB pub x y = u := ⟨_, rfl⟩
  obtain ⟨u2, eu⟩ : ∃ u, highB n 2 = u := ⟨_, rfl⟩
  obtain ⟨a0, ea0⟩ : ∃ u, UInt8.ofNat f = u := ⟨_, rfl⟩
  obtain ⟨a1, ea1⟩ : ∃ u, UInt8.ofNat t = u := ⟨_, rfl⟩
  rw [eh] at l1 hby ⊢
  rw [eu] at l2 ⊢
  rw [ea0, ea1]
  have lb : (bys body).length = n := by simp [bys, hn]
  refine enter (n := 40) (R := rowTo w (76 + n) ([a0, a1] ++ cm ++ hB8 ++ u2 ++ body) (vN 0)) [.agg c.toArray] Try.func15 rfl rfl rfl (St.refl w) ?_ (fun e w' L' h H => by obtain ⟨v, h1, h2⟩ := h; exact ⟨v, h1, h2 w' H⟩)
  refine VC_seq ?_
  refine VC_region ?_
  refine l_boxA rfl rfl ?_
  intro b1
  refine vl_v (q_assign rfl) rfl ?_
  refine vl_v (q_assign rfl) rfl ?_
  refine vl_nil ?_
  refine (th_n ?_)
  refine VC_seq ?_
  refine VC_seq ?_
  refine VC_region ?_
  refine vl_v (q_loads 0 Try.underlying36 rfl rfl rfl sz36 h0) rfl ?_
  refine vl_v (q_callV Try.func20 rfl rfl rfl (fun w1 H1 => hE w1)) rfl ?_
  refine vl_v (q_not rfl) rfl ?_
  refine vl_nil ?_
  refine (th_n ?_)
  refine VC_no (rfl) ?_
  refine VC_skip ?_
  refine (th_n ?_)
  refine VC_seq ?_
  refine VC_drawM 9 [[], [0], [1], [], [3], [4], [2, 5], [], [7], [6, 8], [9, 0, 1, 2, 3, 4, 5, 6, 7, 8]] [[], [0], [0, 1], [], [3], [3, 4], [0, 1, 2, 3, 4, 5], [], [7], [0, 1, 2, 3, 4, 5, 6, 7, 8], [0, 1, 2, 3, 4, 5, 6, 7, 8, 9]] rfl (by kernel_rfl) ?_
  refine qm_v (fun xs hx => q_fldA fo36_0 (by decide) rfl rfl) ?_
  refine qm_v (fun xs hx => q_load 0 Try.underlying3 rfl rfl rfl g0) ?_
  refine qm_v (fun xs hx => q_as (v := vU8 a0) (q_conv_nu8 Try.underlying3 Try.underlying5 rfl) (by rw [ea0])) ?_
  refine qm_v (fun xs hx => q_fldA fo36_1 (by decide) rfl rfl) ?_
  refine qm_v (fun xs hx => q_load 0 Try.underlying3 rfl rfl rfl g1) ?_
  refine qm_v (fun xs hx => q_as (v := vU8 a1) (q_conv_nu8 Try.underlying3 Try.underlying5 rfl) (by rw [ea1])) ?_
  refine qm_a (fun xs hx => q_litA (cs := bys [a0, a1]) Try.underlying34 in5 (by decide) rfl rfl rfl rfl (one_all rfl) rfl) ?_
  refine qm_v (fun xs hx => q_fldA fo36_2 (by decide) rfl rfl) ?_
  refine qm_v (fun xs hx => q_slcA Try.underlying31 sz5 rfl rfl rfl rfl (.inl rfl) (by omega) (by omega) (by omega) (by omega) (by (try simp only [Nat.mul_one, Nat.zero_add, Nat.zero_mul, Nat.mul_zero, Nat.add_zero]) <;> rfl)) ?_
  refine qm_end ?_
  intro xs hx
  obtain ⟨⟨b16, e16⟩, _⟩ := hx
  simp only [e16]
  simp only [resT, nRow, nBlk, nRowT, tupAt_0, List.append_assoc, List.nil_append, List.append_nil, List.cons_append, List.singleton_append, e16]
  refine VL.keep (Sub.cons (s := 0) rfl (Sub.cons (s := 1) rfl (Sub.cons (s := 2) rfl (Sub.cons (s := 3) rfl (Sub.cons (s := 9) rfl (Sub.cons (s := 16) rfl (Sub.cons (s := 18) rfl (Sub.nil _)))))))) ?_
  refine l_append 0 rfl rfl rfl Try.underlying34 Try.underlying34 in5 rfl (by decide) (Reads.blkTake 1 2 32 rfl g2) (by simp only [zb, zu, zw, zi, n64s_length, za]; omega) (by with_reducible first | exact bys_one _ | exact u32s_one _ | exact u64s_one _ | exact i64s_one _ | exact n64s_one _ | assumption) (by omega) (by omega) rfl ?_
  intro A19 c19 hc19
  simp only [List.set_cons_zero, List.set_cons_succ, ← bys_append, ← u32s_append, ← u64s_append, ← i64s_append, List.nil_append, Nat.zero_add]
  refine vl_v (q_assign rfl) rfl ?_
  refine vl_nil ?_
  refine (qn_n (th_n ?_))
  refine VC_seq ?_
  refine VC_region ?_
  refine vl_v (q_fldA fo36_3 (by decide) rfl rfl) rfl ?_
  refine vl_v (q_loadsAt 1 Try.underlying33 rfl rfl rfl sz33 g3 hh) rfl ?_
  refine l_callT Try.func21 rfl rfl rfl (fun w1 H1 => hby w1) rfl ?_
  intro A23 c23 hc23 hm23
  refine vl_v (q_move rfl) rfl ?_
  refine vl_v (q_ext rfl rfl) rfl ?_
  refine vl_v (q_ext rfl rfl) rfl ?_
  refine vl_v (q_assign rfl) rfl ?_
  refine vl_v (q_assign rfl) rfl ?_
  refine vl_nil ?_
  refine (th_n ?_)
  refine VC_seq ?_
  refine VC_region ?_
  refine vl_v (q_move rfl) rfl ?_
  refine vl_v (q_move rfl) rfl ?_
  refine l_append 1 rfl rfl rfl Try.underlying34 Try.underlying34 in5 rfl (by decide) (Reads.row 0 rfl) (by simp only [zb, zu, zw, zi, n64s_length, za]; omega) (by with_reducible first | exact bys_one _ | exact u32s_one _ | exact u64s_one _ | exact i64s_one _ | exact n64s_one _ | assumption) (by omega) (by omega) rfl ?_
  intro A28 c28 hc28
  simp only [List.set_cons_zero, List.set_cons_succ, ← bys_append, ← u32s_append, ← u64s_append, ← i64s_append, List.nil_append, Nat.zero_add]
  refine vl_v (q_assign rfl) rfl ?_
  refine vl_nil ?_
  refine (th_n ?_)
  refine VC_seq ?_
  refine VC_region ?_
  refine vl_v (q_move rfl) rfl ?_
  refine vl_v (q_fldA fo36_4 (by decide) rfl rfl) rfl ?_
  refine vl_v (q_load 2 Try.underlying34 rfl rfl rfl g4) rfl ?_
  refine vl_v (q_lenS Try.underlying34 rfl) rfl ?_
  refine vl_v (q_conv_nw Try.underlying3 Try.underlying67 rfl (by omega)) rfl ?_
  refine l_callR Try.func22 rfl rfl rfl (fun w1 H1 => eu ▸ high_calls n 2 2 rfl (by omega) w1) rfl ?_
  intro A34 c34 hc34 hm34
  refine l_append 2 rfl rfl rfl Try.underlying34 Try.underlying34 in5 rfl (by decide) (Reads.row 0 rfl) (by simp only [zb, zu, zw, zi, n64s_length, za]; omega) (by with_reducible first | exact bys_one _ | exact u32s_one _ | exact u64s_one _ | exact i64s_one _ | exact n64s_one _ | assumption) (by omega) (by omega) rfl ?_
  intro A35 c35 hc35
  simp only [List.set_cons_zero, List.set_cons_succ, ← bys_append, ← u32s_append, ← u64s_append, ← i64s_append, List.nil_append, Nat.zero_add]
  refine vl_v (q_assign rfl) rfl ?_
  refine vl_nil ?_
  refine (th_n ?_)
  refine VC_seq ?_
  refine VC_region ?_
  refine vl_v (q_move rfl) rfl ?_
  refine vl_v (q_fldA fo36_4 (by decide) rfl rfl) rfl ?_
  refine vl_v (q_load 3 Try.underlying34 rfl rfl rfl g4) rfl ?_
  refine l_append 2 rfl rfl rfl Try.underlying34 Try.underlying34 in5 rfl (by decide) (Reads.old hB) (by omega) (by with_reducible first | exact bys_one _ | exact u32s_one _ | exact u64s_one _ | exact i64s_one _ | exact n64s_one _ | assumption) (by omega) (by omega) rfl ?_
  intro A39 c39 hc39
  simp only [List.set_cons_zero, List.set_cons_succ, ← bys_append, ← u32s_append, ← u64s_append, ← i64s_append, List.nil_append, Nat.zero_add]
  refine vl_v (q_assign rfl) rfl ?_
  refine vl_v (q_assign rfl) rfl ?_
  refine vl_nil ?_
  refine (th_n ?_)
  refine VC_ret ?_
  refine ⟨_, res2 rfl rfl rfl, ?_⟩
  exact ⟨_, rfl, fun w' H => by simpa [bys_append, List.append_assoc] using H.pick (ks := [2]) (by decide) rfl⟩
end Go.Proofs.Ytadaihpeionniaa
end
section
namespace Go.PBYtadaihpeionniaa
open Go Go.RowKit
set_option linter.unusedVariables false
set_option linter.unusedSimpArgs false
end Go.PBYtadaihpeionniaa
end
section
namespace Go.PBYtadaihpeionniaa
open Go Go.RowKit
set_option linter.unusedVariables false
set_option linter.unusedSimpArgs false
end Go.PBYtadaihpeionniaa
end
section
namespace Go.PBYtadaihpeionniaa
open Go Go.RowKit
set_option linter.unusedVariables false
set_option linter.unusedSimpArgs false
theorem envC_one {f t : Int} {cm pub : List UInt8} {p q : Int} {sl : Value} (hs : sl.oneCell' = true) : ∀ u ∈ envC f t cm pub p q sl, u.oneCell' = true := by
  intro u hu
  unfold envC at hu
  rcases List.mem_append.1 hu with h | h
  · exact one_all rfl u h
  rcases List.mem_append.1 h with h | h
  · exact bys_one _ u h
  rcases List.mem_append.1 h with h | h
  · exact app_one (bys_one _) (one_all rfl) u h
  · rw [List.mem_singleton] at h; exact h ▸ hs
end Go.PBYtadaihpeionniaa
end
section
namespace Go.PBYtadaihpeionniaa
open Go Go.RowKit
set_option linter.unusedSimpArgs false
set_option linter.unusedVariables false
/-- bytes of a slice that may grow -/
abbrev bodyR (T : TypeId) (b : List UInt8) (x : Option Addr × Nat) : Res := .row T 1 (.slice x.1 b.length x.2) b.length (bys b)
section
variable {P : Program} {n : Nat} {S : List Nat} {w0 : World} {Z : List PanicEntry → World → Prop} {ops : Array Oper} {L : List Res} {d : Tmp} {ty : TypeId} {pos : String} {af : Array Edge} {F : (Xs → Xs → Env) → AkP → Prop} {k : Nat} {C ti to xi xo : List Nat} {Ts : List T5} {E : Xs → Xs → Env} {A : AkP} {rest : List Oper}
theorem qp_callE {dst : Option Tmp} {f : FuncId} {fn : Func} {xs_ : Array Operand} {ats : Array TypeId} {args : Xs → Xs → List Value} (Fs : Xs → Xs → Value → Value → Prop) (N : Xs → Xs → Value → Value → List Res) (hf : P.funcs[f]? = some fn) (hb : fn.body.isSome = true) (hn : (fn.name == "runtime.NumGoroutine") = false)
    (hx : ∀ xs gs : Xs, factsAP C xs gs A → evalsE (E xs gs) xs_.toList = some (args xs gs))
    (hc : ∀ xs gs : Xs, factsAP C xs gs A → ∀ R w, St S w0 ((selI (fun j => ti.contains j) 0 L ++ ownsA (fun j => to.contains j) xs gs A) ++ ((selI (fun j => xi.contains j) 0 L ++ ownsA (fun j => xo.contains j) xs gs A) ++ R)) w →
      Calls P f (args xs gs).toArray w fun e w' => ∃ v g, e = .returned v ∧ (dst = none → v = undef) ∧ Fs xs gs v g ∧ St S w0 (N xs gs v g ++ ((selI (fun j => xi.contains j) 0 L ++ ownsA (fun j => xo.contains j) xs gs A) ++ R)) w')
    (h : quietsP P n S w0 Z ops L F (k + 1) rest Ts (fun xs gs => ext dst (xs k) (E xs gs)) (A ++ [(k, C, Fs, N)])) :
    quietsP P n S w0 Z ops L F k ({ dst := dst, op := .call { callee := .value (.func f), args := xs_, argTypes := ats }, type := ty, pos, after := af, guard := none } :: rest) ((C, ti, to, xi, xo) :: Ts) E A :=
  qp_of (s := .any Fs N) (fun xs gs hf' => .inl ⟨trivial, ⟨fun a w R hm H => opw_call _ hf hb hn (hm.evals (hx xs gs hf')) ((hc xs gs hf' R w H).mono fun e w' ⟨v, g, h1, h2, h3, h4⟩ => ⟨v, h1, v, g, rfl, h2, h3, h4⟩)⟩⟩) h
end
section
variable {P : Program} {n : Nat} {S : List Nat} {w0 : World} {Q : QE} {env : Env} {L : List Res} {ops : Array Oper} {rest : List Oper} {d : Tmp} {ty : TypeId} {pos : String} {af : Array Edge}
/-- a call that tells something new, one of a family -/
theorem l_callG {ι : Type} {V : ι → Value} {M : ι → List Res} {f : FuncId} {fn : Func} {xs : Array Operand} {ats : Array TypeId} {args : List Value} (hf : P.funcs[f]? = some fn) (hb : fn.body.isSome = true) (hn : (fn.name == "runtime.NumGoroutine") = false) (hx : evalsE env xs.toList = some args)
    (hc : ∀ w, St S w0 L w → Calls P f args.toArray w (fun e w' => ∃ x, e = .returned (V x) ∧ St [] w (M x) w')) (hd : dstOk n (some d) = true) (h : ∀ x, VL P n S w0 ops Q rest ((d, V x) :: env) (M x ++ L)) :
    VL P n S w0 ops Q ({ dst := some d, op := .call { callee := .value (.func f), args := xs, argTypes := ats }, type := ty, pos, after := af, guard := none } :: rest) env L :=
  l_call (F := fun u N => ∃ x, u = V x ∧ N = M x ++ L) hf hb hn hx (fun w H => (hc w H).mono fun e w' ⟨x, h1, h2⟩ => ⟨V x, _, h1, ⟨x, rfl, rfl⟩, (H.join h2).perm List.perm_append_comm⟩) hd (by rintro u N ⟨x, rfl, rfl⟩; exact h x)
end
end Go.PBYtadaihpeionniaa
end
section
namespace Go.Proofs.Ytadaihpeionniaa
open Go.RowKit Go.PBYtadaihpeionniaa
set_option linter.unusedVariables false
set_option linter.unusedSimpArgs false
set_option maxRecDepth 10000
end Go.Proofs.Ytadaihpeionniaa
end
section
namespace Go.PBYtadaihpeionniaa
open Go Go.RowKit Go.ChangeShapes Go.WideShapes Go.ChangeAt
set_option linter.unusedVariables false
set_option linter.unusedSimpArgs false
section
variable {H : Type} {enc : TypeId × Value → H} {P : Program} {w : World} {r : Reach} {b0 base : Nat} {spare : Nat → Bool} {held : Bool}
/-- a struct's fields, each looked at by itself -/
theorem trod_field {t : TypeId} {fs : Array Field} {fuel : Nat} {cs : List Value} {x : DataW H × List MemPlace} (hu : P.underlying t = some (.struct fs)) (h : DataW.trod enc P w base spare held fuel t cs = some x) :
    cs.length = P.cellsOf t ∧ ∃ m, ∀ f ∈ fs.toList, ∃ y, DataW.trod enc P w base spare held m f.type ((cs.drop f.offset).take (P.cellsOf f.type)) = some y := by
  cases fuel with
  | zero => simp [DataW.trod] at h
  | succ fuel =>
    unfold DataW.trod at h
    rw [hu] at h
    simp only at h
    split at h
    · rename_i hl
      refine ⟨hl, fuel, ?_⟩
      cases hm : (fs.toList.mapM fun f => DataW.trod enc P w base spare held fuel f.type ((cs.drop f.offset).take (P.cellsOf f.type))) with
      | none => rw [hm] at h; simp at h
      | some y =>
        have key : ∀ (l : List Field) (y : List (DataW H × List MemPlace)), (l.mapM fun f => DataW.trod enc P w base spare held fuel f.type ((cs.drop f.offset).take (P.cellsOf f.type))) = some y → ∀ f ∈ l, ∃ y, DataW.trod enc P w base spare held fuel f.type ((cs.drop f.offset).take (P.cellsOf f.type)) = some y := by
          intro l
          induction l with
          | nil => intro y _ f hf; cases hf
          | cons a l ih =>
            intro y hy f hf
            rw [List.mapM_cons] at hy
            cases ha : DataW.trod enc P w base spare held fuel a.type ((cs.drop a.offset).take (P.cellsOf a.type)) with
            | none => rw [ha] at hy; simp at hy
            | some z =>
              rw [ha] at hy
              simp only [Option.pure_def, Option.bind_eq_bind, Option.bind_some] at hy
              cases hr : (l.mapM fun f => DataW.trod enc P w base spare held fuel f.type ((cs.drop f.offset).take (P.cellsOf f.type))) with
              | none => rw [hr] at hy; simp at hy
              | some z' =>
                rcases List.mem_cons.1 hf with rfl | hf
                · exact ⟨z, ha⟩
                · exact ih z' hr f hf
        exact key _ _ hm
    · cases h
/-- a slice of bytes in a cell -/
theorem open_cell {t e : TypeId} {cs : List Value} {fuel : Nat} {x : DataW H × List MemPlace} (ht : P.underlying t = some (.slice e)) (he : P.underlying e = some (.int .u8)) (hc : P.cellsOf e = 1)
    (hf : DataW.trod enc P w 0 (fun _ => true) true fuel t cs = some x) : ∃ (l : List UInt8) (A : Option Addr) (n c : Nat), cs = [.slice A n c] ∧ n = l.length ∧ n ≤ c ∧ c ≤ 9223372036854775807 ∧ SlAt w A (bys l) := by
  rcases open_ints ht he hc hf with ⟨hcs, _⟩ | ⟨a, l, c, zs, hcs, _, hl, hm, hz, _, hcell, hwz⟩
  · exact ⟨[], none, 0, 0, hcs, rfl, Nat.le_refl _, by omega, SlAt.nil _ _⟩
  · simp only [if_true] at hz
    have e : (toB (zs.take l)).length = l := by rw [toB_length, List.length_take]; omega
    exact ⟨toB (zs.take l), some a, l, c, hcs, e.symm, hl, by simpa [maxLen] using hm, sl_ints hcell hwz l⟩
end
/-! ### keys that hold a bool -/
end Go.PBYtadaihpeionniaa
end
section
namespace Go.PBYtadaihpeionniaa
open Go Go.RowKit Go.ChangeShapes Go.WideShapes Go.ChangeAt
set_option linter.unusedVariables false
set_option linter.unusedSimpArgs false
def HeadV (v : Value) (x : List UInt8 × Int × Int) : Prop := v = .agg (headC x.1 x.2.1 x.2.2).toArray ∧ x.1.length = 32
theorem open_head {cs : List Value} (h : Fits cs (List.replicate 32 .u8 ++ [.i64, .i64])) : ∃ x, HeadV (.agg cs.toArray) x := by
  obtain ⟨a, b, rfl, fa, fb⟩ := h.split
  obtain ⟨l, hl, rfl⟩ := fa.bytes
  obtain ⟨u, v, rfl, fu, fv⟩ := Fits.split (k := [.i64]) (l := [.i64]) fb
  obtain ⟨p, rfl, _⟩ := fu.one
  obtain ⟨q, rfl, _⟩ := fv.one
  exact ⟨(l, p, q), rfl, hl⟩
structure EnvD where
  f : Int
  t : Int
  cm : List UInt8
  pub : List UInt8
  p : Int
  q : Int
  body : List UInt8
theorem parts5 (cs : List Value) (h : cs.length = 69) : cs = (cs.drop 0).take 1 ++ ((cs.drop 1).take 1 ++ ((cs.drop 2).take 32 ++ ((cs.drop 34).take 34 ++ (cs.drop 68).take 1))) := by
  have e4 : (cs.drop 68).take 1 = cs.drop 68 := List.take_of_length_le (by simp; omega)
  have e3 : (cs.drop 34).take 34 ++ cs.drop 68 = cs.drop 34 := by rw [show cs.drop 68 = (cs.drop 34).drop 34 by rw [List.drop_drop]]; exact List.take_append_drop _ _
  have e2 : (cs.drop 2).take 32 ++ cs.drop 34 = cs.drop 2 := by rw [show cs.drop 34 = (cs.drop 2).drop 32 by rw [List.drop_drop]]; exact List.take_append_drop _ _
  have e1 : (cs.drop 1).take 1 ++ cs.drop 2 = cs.drop 1 := by rw [show cs.drop 2 = (cs.drop 1).drop 1 by rw [List.drop_drop]]; exact List.take_append_drop _ _
  rw [e4, e3, e2, e1, List.drop_zero]
  exact (List.take_append_drop 1 cs).symm
end Go.PBYtadaihpeionniaa
namespace Go.Proofs.Ytadaihpeionniaa
open Go.RowKit Go.PBYtadaihpeionniaa
set_option linter.unusedVariables false
set_option linter.unusedSimpArgs false
set_option maxRecDepth 100000
theorem laid12 : laidOutB Try.prog = true := by kernel_rfl
theorem flatHead : Flat Try.prog 33 (List.replicate 32 .u8 ++ [.i64, .i64]) :=
  flat_of (m := 6) laid12 (by omega) (of_decide_eq_true (by kernel_rfl)) (by kernel_rfl) (by kernel_rfl) (by kernel_rfl) (by kernel_rfl) (by kernel_rfl) (by kernel_rfl)
theorem flat32 : Flat Try.prog 31 (List.replicate 32 .u8) :=
  flat_of (m := 3) laid12 (by omega) (of_decide_eq_true (by kernel_rfl)) (by kernel_rfl) (by kernel_rfl) (by kernel_rfl) (by kernel_rfl) (by kernel_rfl) (by kernel_rfl)
end Go.Proofs.Ytadaihpeionniaa
end
section
namespace Go.Proofs.Ytadaihpeionniaa
open Go.RowKit Go.PBYtadaihpeionniaa
set_option linter.unusedVariables false
set_option linter.unusedSimpArgs false
set_option maxRecDepth 100000
end Go.Proofs.Ytadaihpeionniaa
end
section
namespace Go.PBYtadaihpeionniaa
open Go Go.RowKit
set_option linter.unusedVariables false
abbrev envOf (X : EnvD) (x : Option Addr × Nat) : List Value := envC X.f X.t X.cm X.pub X.p X.q (.slice x.1 X.body.length x.2)
end Go.PBYtadaihpeionniaa
namespace Go.Proofs.Ytadaihpeionniaa
open Go.RowKit Go.PBYtadaihpeionniaa
set_option linter.unusedVariables false
set_option linter.unusedSimpArgs false
set_option maxRecDepth 10000
end Go.Proofs.Ytadaihpeionniaa
end
section
namespace Go.PBYtadaihpeionniaa
open Go Go.RowKit
set_option linter.unusedVariables false
/-- are two envelopes the same? -/
def sameEB (X Y : EnvD) : Bool := decide (X.f = Y.f) && decide (X.t = Y.t) && decide (X.cm = Y.cm) && decide (X.pub = Y.pub ∧ X.p = Y.p ∧ X.q = Y.q) && decide (X.body = Y.body)
theorem sameEB_refl (X : EnvD) : sameEB X X = true := by simp [sameEB]
theorem headC_inj {a b : List UInt8} {p q p' q' : Int} (ha : a.length = 32) (hb : b.length = 32) : headC a p q = headC b p' q' ↔ a = b ∧ p = p' ∧ q = q' := by
  constructor
  · intro h
    have h1 := List.append_inj h (by simp [bys, ha, hb])
    have h2 := bys_inj' h1.1
    have h3 := h1.2
    simp only [List.cons.injEq, Value.int.injEq, true_and, and_true] at h3
    exact ⟨h2, h3.1, h3.2⟩
  · rintro ⟨rfl, rfl, rfl⟩; rfl
end Go.PBYtadaihpeionniaa
namespace Go.Proofs.Ytadaihpeionniaa
open Go.RowKit Go.PBYtadaihpeionniaa
set_option linter.unusedVariables false
set_option linter.unusedSimpArgs false
set_option maxRecDepth 10000
set_option maxHeartbeats 2000000 in
theorem same_calls (X Y : EnvD) (A B : Option Addr) (c k : Nat) (hX1 : X.cm.length = 32) (hX2 : X.pub.length = 32) (hY1 : Y.cm.length = 32) (hY2 : Y.pub.length = 32) (fX : Fits (headC X.pub X.p X.q) (List.replicate 32 .u8 ++ [.i64, .i64])) (fY : Fits (headC Y.pub Y.p Y.q) (List.replicate 32 .u8 ++ [.i64, .i64])) (w : World) (hA : SlAt w A (bys X.body)) (hB : SlAt w B (bys Y.body)) :
    Calls Try.prog 19 #[.agg (envOf X (A, c)).toArray, .agg (envOf Y (B, k)).toArray] w fun e w' => e = .returned (.bool (sameEB X Y)) ∧ Kept [] w w' := by
  have hF := envC_f (f := X.f) (t := X.t) (p := X.p) (q := X.q) (sl := .slice A X.body.length c) hX1 hX2
  have hG := envC_f (f := Y.f) (t := Y.t) (p := Y.p) (q := Y.q) (sl := .slice B Y.body.length k) hY1 hY2
  have hX := headC_length hX2 X.p X.q
  have hY := headC_length hY2 Y.p Y.q
  have hi := headC_inj (p := X.p) (q := X.q) (p' := Y.p) (q' := Y.q) hX2 hY2
  unfold envOf
  simp only
  obtain ⟨u, hu⟩ : ∃ u, envC X.f X.t X.cm X.pub X.p X.q (.slice A X.body.length c) = u := ⟨_, rfl⟩
  obtain ⟨v, hv⟩ : ∃ v, envC Y.f Y.t Y.cm Y.pub Y.p Y.q (.slice B Y.body.length k) = v := ⟨_, rfl⟩
  rw [hu] at hF ⊢
  rw [hv] at hG ⊢
  obtain ⟨h0, g0, g1, g2, g3, g4⟩ := hF
  obtain ⟨j0, k0, k1, k2, k3, k4⟩ := hG
  have lX : (bys X.cm).length = 32 := by rw [bys_length]; exact hX1
  have lY : (bys Y.cm).length = 32 := by rw [bys_length]; exact hY1
  refine enter (n := 40) (R := fun e M => e = .returned (.bool (sameEB X Y))) [.agg u.toArray, .agg v.toArray] Try.func19 rfl rfl rfl (St.refl w) ?_ (fun e w' L' h H => ⟨h, H.kept⟩)
  refine VC_seq ?_
  refine VC_region ?_
  refine l_boxA rfl rfl ?_
  intro b2
  refine l_boxA rfl rfl ?_
  intro b3
  refine vl_v (q_assign rfl) rfl ?_
  refine vl_nil ?_
  refine (th_n ?_)
  refine VC_seq ?_
  refine VC_region ?_
  refine vl_v (q_fldA fo36_0 (by decide) rfl rfl) rfl ?_
  refine vl_v (q_load 1 Try.underlying3 rfl rfl rfl g0) rfl ?_
  refine vl_v (q_fldA fo36_0 (by decide) rfl rfl) rfl ?_
  refine vl_v (q_load 0 Try.underlying3 rfl rfl rfl k0) rfl ?_
  refine vl_v (q_eql_k Try.underlying3 rfl rfl) rfl ?_
  by_cases hs9 : X.f = Y.f
  · skip
    rw [show decide (X.f = Y.f) = true from decide_eq_true hs9]
    refine vl_v (q_move rfl) rfl ?_
    refine vl_vg rfl (q_fldA fo36_1 (by decide) rfl rfl) rfl ?_
    refine vl_vg rfl (q_load 1 Try.underlying3 rfl rfl rfl g1) rfl ?_
    refine vl_vg rfl (q_fldA fo36_1 (by decide) rfl rfl) rfl ?_
    refine vl_vg rfl (q_load 0 Try.underlying3 rfl rfl rfl k1) rfl ?_
    refine vl_vg rfl (q_eql_k Try.underlying3 rfl rfl) rfl ?_
    by_cases hs15 : X.t = Y.t
    · skip
      rw [show decide (X.t = Y.t) = true from decide_eq_true hs15]
      refine vl_v (q_pickT rfl rfl) rfl ?_
      refine vl_v (q_move rfl) rfl ?_
      refine vl_vg rfl (q_fldA fo36_2 (by decide) rfl rfl) rfl ?_
      refine vl_vg rfl (q_loadsAt 1 Try.underlying31 rfl rfl rfl sz31 g2 lX) rfl ?_
      refine vl_vg rfl (q_fldA fo36_2 (by decide) rfl rfl) rfl ?_
      refine vl_vg rfl (q_loadsAt 0 Try.underlying31 rfl rfl rfl sz31 k2 lY) rfl ?_
      refine vl_vg rfl (q_eqB flat32 rfl rfl (fits_bys' hX1) (fits_bys' hY1)) rfl ?_
      by_cases hs22 : X.cm = Y.cm
      · skip
        rw [show decide (X.cm = Y.cm) = true from decide_eq_true hs22]
        refine vl_v (q_pickT rfl rfl) rfl ?_
        refine vl_v (q_move rfl) rfl ?_
        refine vl_vg rfl (q_fldA fo36_3 (by decide) rfl rfl) rfl ?_
        refine vl_vg rfl (q_loadsAt 1 Try.underlying33 rfl rfl rfl sz33 g3 hX) rfl ?_
        refine vl_vg rfl (q_fldA fo36_3 (by decide) rfl rfl) rfl ?_
        refine vl_vg rfl (q_loadsAt 0 Try.underlying33 rfl rfl rfl sz33 k3 hY) rfl ?_
        refine vl_vg rfl (q_eqR flatHead rfl rfl fX fY (r := decide (X.pub = Y.pub ∧ X.p = Y.p ∧ X.q = Y.q)) (by rw [decide_eq_true_iff]; exact hi.symm)) rfl ?_
        by_cases hs29 : X.pub = Y.pub ∧ X.p = Y.p ∧ X.q = Y.q
        · skip
          rw [show decide (X.pub = Y.pub ∧ X.p = Y.p ∧ X.q = Y.q) = true from decide_eq_true hs29]
          refine vl_v (q_pickT rfl rfl) rfl ?_
          refine vl_v (q_move rfl) rfl ?_
          refine vl_vg rfl (q_fldA fo36_4 (by decide) rfl rfl) rfl ?_
          refine vl_vg rfl (q_load 1 Try.underlying34 rfl rfl rfl g4) rfl ?_
          refine vl_vg rfl (q_str (l := X.body) Try.underlying34 Try.underlying5 Try.underlying9 rfl (Reads.old hA) rfl) rfl ?_
          refine vl_vg rfl (q_fldA fo36_4 (by decide) rfl rfl) rfl ?_
          refine vl_vg rfl (q_load 0 Try.underlying34 rfl rfl rfl k4) rfl ?_
          refine vl_vg rfl (q_str (l := Y.body) Try.underlying34 Try.underlying5 Try.underlying9 rfl (Reads.old hB) rfl) rfl ?_
          refine vl_vg rfl (q_eqStr Try.underlying9 rfl rfl) rfl ?_
          refine vl_v (q_pickT rfl rfl) rfl ?_
          refine vl_v (q_assign rfl) rfl ?_
          refine vl_nil ?_
          refine (th_n ?_)
          refine VC_ret ?_
          refine ⟨_, res1 rfl rfl, ?_⟩
          exact congrArg (fun b => Ending.returned (Value.bool b)) (by unfold sameEB; (first | rw [decide_eq_true hs9, decide_eq_true hs15, decide_eq_true hs22, decide_eq_true hs29] | rw [decide_eq_true hs9, decide_eq_true hs15, decide_eq_true hs22, decide_eq_false hs29] | rw [decide_eq_true hs9, decide_eq_true hs15, decide_eq_false hs22] | rw [decide_eq_true hs9, decide_eq_false hs15] | rw [decide_eq_false hs9]) <;> rfl)
        · skip
          rw [show decide (X.pub = Y.pub ∧ X.p = Y.p ∧ X.q = Y.q) = false from decide_eq_false hs29]
          refine vl_v (q_pickT rfl rfl) rfl ?_
          refine vl_v (q_move rfl) rfl ?_
          refine vl_skip rfl rfl ?_
          refine vl_skip rfl rfl ?_
          refine vl_skip rfl rfl ?_
          refine vl_skip rfl rfl ?_
          refine vl_skip rfl rfl ?_
          refine vl_skip rfl rfl ?_
          refine vl_skip rfl rfl ?_
          refine vl_v (q_pickF rfl rfl) rfl ?_
          refine vl_v (q_assign rfl) rfl ?_
          refine vl_nil ?_
          refine (th_n ?_)
          refine VC_ret ?_
          refine ⟨_, res1 rfl rfl, ?_⟩
          exact congrArg (fun b => Ending.returned (Value.bool b)) (by unfold sameEB; (first | rw [decide_eq_true hs9, decide_eq_true hs15, decide_eq_true hs22, decide_eq_true hs29] | rw [decide_eq_true hs9, decide_eq_true hs15, decide_eq_true hs22, decide_eq_false hs29] | rw [decide_eq_true hs9, decide_eq_true hs15, decide_eq_false hs22] | rw [decide_eq_true hs9, decide_eq_false hs15] | rw [decide_eq_false hs9]) <;> rfl)
      · skip
        rw [show decide (X.cm = Y.cm) = false from decide_eq_false hs22]
        refine vl_v (q_pickT rfl rfl) rfl ?_
        refine vl_v (q_move rfl) rfl ?_
        refine vl_skip rfl rfl ?_
        refine vl_skip rfl rfl ?_
        refine vl_skip rfl rfl ?_
        refine vl_skip rfl rfl ?_
        refine vl_skip rfl rfl ?_
        refine vl_v (q_pickF rfl rfl) rfl ?_
        refine vl_v (q_move rfl) rfl ?_
        refine vl_skip rfl rfl ?_
        refine vl_skip rfl rfl ?_
        refine vl_skip rfl rfl ?_
        refine vl_skip rfl rfl ?_
        refine vl_skip rfl rfl ?_
        refine vl_skip rfl rfl ?_
        refine vl_skip rfl rfl ?_
        refine vl_v (q_pickF rfl rfl) rfl ?_
        refine vl_v (q_assign rfl) rfl ?_
        refine vl_nil ?_
        refine (th_n ?_)
        refine VC_ret ?_
        refine ⟨_, res1 rfl rfl, ?_⟩
        exact congrArg (fun b => Ending.returned (Value.bool b)) (by unfold sameEB; (first | rw [decide_eq_true hs9, decide_eq_true hs15, decide_eq_true hs22, decide_eq_true hs29] | rw [decide_eq_true hs9, decide_eq_true hs15, decide_eq_true hs22, decide_eq_false hs29] | rw [decide_eq_true hs9, decide_eq_true hs15, decide_eq_false hs22] | rw [decide_eq_true hs9, decide_eq_false hs15] | rw [decide_eq_false hs9]) <;> rfl)
    · skip
      rw [show decide (X.t = Y.t) = false from decide_eq_false hs15]
      refine vl_v (q_pickT rfl rfl) rfl ?_
      refine vl_v (q_move rfl) rfl ?_
      refine vl_skip rfl rfl ?_
      refine vl_skip rfl rfl ?_
      refine vl_skip rfl rfl ?_
      refine vl_skip rfl rfl ?_
      refine vl_skip rfl rfl ?_
      refine vl_v (q_pickF rfl rfl) rfl ?_
      refine vl_v (q_move rfl) rfl ?_
      refine vl_skip rfl rfl ?_
      refine vl_skip rfl rfl ?_
      refine vl_skip rfl rfl ?_
      refine vl_skip rfl rfl ?_
      refine vl_skip rfl rfl ?_
      refine vl_v (q_pickF rfl rfl) rfl ?_
      refine vl_v (q_move rfl) rfl ?_
      refine vl_skip rfl rfl ?_
      refine vl_skip rfl rfl ?_
      refine vl_skip rfl rfl ?_
      refine vl_skip rfl rfl ?_
      refine vl_skip rfl rfl ?_
      refine vl_skip rfl rfl ?_
      refine vl_skip rfl rfl ?_
      refine vl_v (q_pickF rfl rfl) rfl ?_
      refine vl_v (q_assign rfl) rfl ?_
      refine vl_nil ?_
      refine (th_n ?_)
      refine VC_ret ?_
      refine ⟨_, res1 rfl rfl, ?_⟩
      exact congrArg (fun b => Ending.returned (Value.bool b)) (by unfold sameEB; (first | rw [decide_eq_true hs9, decide_eq_true hs15, decide_eq_true hs22, decide_eq_true hs29] | rw [decide_eq_true hs9, decide_eq_true hs15, decide_eq_true hs22, decide_eq_false hs29] | rw [decide_eq_true hs9, decide_eq_true hs15, decide_eq_false hs22] | rw [decide_eq_true hs9, decide_eq_false hs15] | rw [decide_eq_false hs9]) <;> rfl)
  · skip
    rw [show decide (X.f = Y.f) = false from decide_eq_false hs9]
    refine vl_v (q_move rfl) rfl ?_
    refine vl_skip rfl rfl ?_
    refine vl_skip rfl rfl ?_
    refine vl_skip rfl rfl ?_
    refine vl_skip rfl rfl ?_
    refine vl_skip rfl rfl ?_
    refine vl_v (q_pickF rfl rfl) rfl ?_
    refine vl_v (q_move rfl) rfl ?_
    refine vl_skip rfl rfl ?_
    refine vl_skip rfl rfl ?_
    refine vl_skip rfl rfl ?_
    refine vl_skip rfl rfl ?_
    refine vl_skip rfl rfl ?_
    refine vl_v (q_pickF rfl rfl) rfl ?_
    refine vl_v (q_move rfl) rfl ?_
    refine vl_skip rfl rfl ?_
    refine vl_skip rfl rfl ?_
    refine vl_skip rfl rfl ?_
    refine vl_skip rfl rfl ?_
    refine vl_skip rfl rfl ?_
    refine vl_v (q_pickF rfl rfl) rfl ?_
    refine vl_v (q_move rfl) rfl ?_
    refine vl_skip rfl rfl ?_
    refine vl_skip rfl rfl ?_
    refine vl_skip rfl rfl ?_
    refine vl_skip rfl rfl ?_
    refine vl_skip rfl rfl ?_
    refine vl_skip rfl rfl ?_
    refine vl_skip rfl rfl ?_
    refine vl_v (q_pickF rfl rfl) rfl ?_
    refine vl_v (q_assign rfl) rfl ?_
    refine vl_nil ?_
    refine (th_n ?_)
    refine VC_ret ?_
    refine ⟨_, res1 rfl rfl, ?_⟩
    exact congrArg (fun b => Ending.returned (Value.bool b)) (by unfold sameEB; (first | rw [decide_eq_true hs9, decide_eq_true hs15, decide_eq_true hs22, decide_eq_true hs29] | rw [decide_eq_true hs9, decide_eq_true hs15, decide_eq_true hs22, decide_eq_false hs29] | rw [decide_eq_true hs9, decide_eq_true hs15, decide_eq_false hs22] | rw [decide_eq_true hs9, decide_eq_false hs15] | rw [decide_eq_false hs9]) <;> rfl)
end Go.Proofs.Ytadaihpeionniaa
end
section
namespace Go.PBYtadaihpeionniaa
open Go Go.RowKit
set_option linter.unusedVariables false
set_option linter.unusedSimpArgs false
def enR (X : EnvD) : Bool := rightEB X.f X.t X.p X.q X.body.length
/-- an envelope's bytes, none if it may not be -/
def enB (X : EnvD) : List UInt8 := if enR X then envB X.f.toNat X.t.toNat X.cm X.pub X.p.toNat X.q.toNat X.body else []
def enK (X : EnvD) : Nat := if enR X then 0 else 1
theorem enR_nat {X : EnvD} (h : enR X = true) : ∃ f t p q : Nat, X.f = (f : Int) ∧ X.t = (t : Int) ∧ X.p = (p : Int) ∧ X.q = (q : Int) := by
  obtain ⟨h1, h2, h3⟩ := rightEB_iff.1 h
  have h4 := rightB_iff.1 h2
  exact ⟨X.f.toNat, X.t.toNat, X.p.toNat, X.q.toNat, by omega, by omega, by omega, by omega⟩
end Go.PBYtadaihpeionniaa
end
section
namespace Go.Proofs.Ytadaihpeionniaa
open Go.RowKit Go.PBYtadaihpeionniaa
set_option linter.unusedVariables false
set_option linter.unusedSimpArgs false
set_option maxRecDepth 100000
def enCalls (F : FuncId) (X : EnvD) (A : Option Addr) (c : Nat) (w : World) : Prop :=
  Calls Try.prog F #[.agg (envOf X (A, c)).toArray] w fun e w' => ∃ x : Option Addr × Nat, e = .returned (.tuple #[.slice x.1 (enB X).length x.2, vN (enK X)]) ∧ St [] w [bodyR 5 (enB X) x] w'
theorem enCalls_of {F : FuncId} {X : EnvD} {A : Option Addr} {c : Nat} {w : World} (hc : X.cm.length = 32) (hp : X.pub.length = 32)
    (hbad : rightEB X.f X.t X.p X.q X.body.length = false → Calls Try.prog F #[.agg (envC X.f X.t X.cm X.pub X.p X.q (.slice A X.body.length c)).toArray] w fun e w' => e = .returned (.tuple #[.slice none 0 0, vN 1]) ∧ Kept [] w w')
    (hok : ∀ (f t x y : Nat), X.f = (f : Int) → X.t = (t : Int) → X.p = (x : Int) → X.q = (y : Int) → rightEB f t x y X.body.length = true → Calls Try.prog F #[.agg (envC f t X.cm X.pub x y (.slice A X.body.length c)).toArray] w fun e w' => ∃ v, e = .returned (.tuple #[v, vN 0]) ∧ St [] w [.row 5 1 v (76 + X.body.length) (bys (envB f t X.cm X.pub x y X.body))] w') : enCalls F X A c w := by
  cases h : enR X with
  | false =>
    have e1 : enB X = [] := if_neg (by rw [h]; decide)
    have e2 : enK X = 1 := if_neg (by rw [h]; decide)
    unfold enCalls
    rw [e1, e2]
    exact (hbad h).mono fun e w' ⟨h1, h2⟩ => ⟨(none, 0), h1, ((St.refl w).keep h2).addNil _ _⟩
  | true =>
    obtain ⟨f, t, p, q, g1, g2, g3, g4⟩ := enR_nat h
    have e1 : enB X = envB f t X.cm X.pub p q X.body := by unfold enB; rw [if_pos h, g1, g2, g3, g4]; simp only [Int.toNat_natCast]
    have e2 : enK X = 0 := if_pos h
    have hL := envB_length (f := f) (t := t) (x := p) (y := q) (body := X.body) hc hp
    have h0 := h
    unfold enR at h0
    rw [g1, g2, g3, g4] at h0
    have hk := hok f t p q g1 g2 g3 g4 h0
    rw [← hL] at hk
    unfold enCalls
    rw [e1, e2]
    unfold envOf
    rw [g1, g2, g3, g4]
    refine hk.mono ?_
    rintro e w' ⟨v, rfl, H⟩
    obtain ⟨B, k, rfl, _, _, _⟩ := row_sl H 0 rfl
    exact ⟨(B, k), rfl, H⟩
theorem henv_calls (X : EnvD) (A : Option Addr) (c : Nat) (hc : X.cm.length = 32) (hp : X.pub.length = 32) (w : World) (hA : SlAt w A (bys X.body)) : enCalls 15 X A c w :=
  enCalls_of hc hp (fun h => henv_bad _ _ _ _ _ _ _ _ _ hc hp h w) (fun f t x y _ _ _ _ h => henv_ok f t X.cm X.pub x y X.body _ _ _ rfl hc hp h w hA)
end Go.Proofs.Ytadaihpeionniaa
end
section
namespace Go.PBYtadaihpeionniaa
open Go Go.RowKit
set_option linter.unusedVariables false
set_option linter.unusedSimpArgs false
/-- the blocks of resources -/
def ats (X : List Res) : List Nat := X.filterMap Res.at
/-- what is owned among other things, alone -/
theorem St.own {S : List Nat} {w0 w : World} {X R : List Res} (H : St S w0 (X ++ R) w) : St (ats X) w X w :=
  ⟨Kept.refl _ _, fun r hr => H.ok r (List.mem_append_left _ hr), fun r hr b hb => .inr (List.mem_filterMap.2 ⟨r, hr, hb⟩), H.apart.sublist (List.sublist_append_left _ _)⟩
/-- and back among the others -/
theorem St.swap {S : List Nat} {w0 w w' : World} {X R X' : List Res} (H : St S w0 (X ++ R) w) (H' : St (ats X) w X' w') : St S w0 (X' ++ R) w' := by
  have hT : ∀ b, b ∈ ats X → ∃ r ∈ X, r.at = some b := fun b hb => by
    obtain ⟨r, hr, h⟩ := List.mem_filterMap.1 hb
    exact ⟨r, hr, h⟩
  have hX : ∀ r ∈ X, r ∈ X ++ R := fun r hr => List.mem_append_left _ hr
  have hR : ∀ r ∈ R, r ∈ X ++ R := fun r hr => List.mem_append_right _ hr
  have hap := List.pairwise_append.1 H.apart
  have hstay : ∀ s ∈ R, s.ok w' := fun s hs => Res.of_eq (H.ok s (hR s hs)) fun b hb => H'.kept.block b (Res.lt (H.ok s (hR s hs)) hb) fun hm => by
    obtain ⟨r, hr, h⟩ := hT b hm
    exact hap.2.2 r hr s hs b h hb
  refine ⟨⟨H'.kept.os.trans H.kept.os, H'.kept.tape.trans H.kept.tape, H'.kept.output.trans H.kept.output, Nat.le_trans H.kept.size H'.kept.size, fun k hk hn => ?_⟩, ?_, ?_, ?_⟩
  · rw [H'.kept.block k (Nat.lt_of_lt_of_le hk H.kept.size) fun hm => ?_]
    · exact H.kept.block k hk hn
    · obtain ⟨r, hr, h⟩ := hT k hm
      rcases H.new r (hX r hr) k h with h | h
      · omega
      · exact hn h
  · intro s hs
    rcases List.mem_append.1 hs with h | h
    · exact H'.ok s h
    · exact hstay s h
  · intro s hs b hb
    rcases List.mem_append.1 hs with h | h
    · rcases H'.new s h b hb with h' | h'
      · exact .inl (Nat.le_trans H.kept.size h')
      · obtain ⟨r, hr, h2⟩ := hT b h'
        exact H.new r (hX r hr) b h2
    · exact H.new s (hR s h) b hb
  · refine List.pairwise_append.2 ⟨H'.apart, hap.2.1, ?_⟩
    intro s hs t ht b hb htb
    rcases H'.new s hs b hb with h' | h'
    · have := Res.lt (H.ok t (hR t ht)) htb
      omega
    · obtain ⟨r, hr, h2⟩ := hT b h'
      exact hap.2.2 r hr t ht b h2 htb
section
variable {P : Program} {n : Nat} {S : List Nat} {w0 : World} {Q : QE} {env : Env} {X F : List Res} {c : Code}
/-- code that works on some of what is owned -/
theorem VC_frame (h : ∀ w, St S w0 (X ++ F) w → VC P n (ats X) w c (fun e env X' => Q e env (X' ++ F)) env X) : VC P n S w0 c Q env (X ++ F) :=
  ⟨fun a w hm H => wp_mono ((h w H).run a w hm H.own) fun e a' w' ⟨env', X', h1, h2, h3⟩ => ⟨env', X' ++ F, h1, H.swap h2, h3⟩⟩
/-- what lay there before any of it -/
theorem Reads.own {w w0 : World} {L : List Res} {A : Option Addr} {vs : List Value} (hA : SlAt w0 A vs) (H : St [] w0 (X ++ F) w) : Reads (ats X) w L A vs := by
  have h1 : SlAt w A vs := H.sl0 hA
  intro w' H' j v hj
  obtain ⟨a, e, hc⟩ := h1 j v hj
  refine ⟨a, e, H'.kept.cell hc ?_⟩
  intro hm
  obtain ⟨r, hr, hb⟩ := List.mem_filterMap.1 hm
  obtain ⟨a0, e0, hc0⟩ := hA j v hj
  rw [e] at e0
  cases e0
  have hl := World.block_lt_of_cell? w0 _ hc0
  rcases H.new r (List.mem_append_left _ hr) _ hb with h | h
  · omega
  · simp at h
/-- what of the rest is read -/
theorem Reads.rest {w w0 : World} {L : List Res} {A : Option Addr} {vs : List Value} (r : Res) (hr : r ∈ F) (hA : ∀ w', r.ok w' → SlAt w' A vs) (H : St S w0 (X ++ F) w) : Reads (ats X) w L A vs := by
  intro w' H'
  refine hA w' (Res.of_eq (H.ok r (List.mem_append_right _ hr)) fun b hb => H'.kept.block b (Res.lt (H.ok r (List.mem_append_right _ hr)) hb) fun hm => ?_)
  obtain ⟨x, hx, h⟩ := List.mem_filterMap.1 hm
  exact (List.pairwise_append.1 H.apart).2.2 x hx r hr b h hb
end
section
variable {P : Program} {n : Nat} {S : List Nat} {w0 : World} {env : Env} {L : List Res}
variable {d : Tmp} {ty : TypeId} {pos : String} {af : Array Edge} {g : Option (Nat × Bool)}
/-- a field, by an address that is read -/
theorem q_fldRd {s : TypeId} {x : Operand} {f off sz m r : Nat} {A : Option Addr} (hf : fieldOff P s f = some (off, sz)) (hz : sz ≠ 0) (hx : evalE env x = some (ptrOf A m)) (hr : m + off = r) :
    QT P n S w0 { dst := some d, op := .fieldAddr s x f, type := ty, pos, after := af, guard := g } env L (.val (ptrOf A r)) := by
  have h := q_fldAd (n := n) (S := S) (w0 := w0) (L := L) (d := d) (ty := ty) (pos := pos) (af := af) (g := g) hf hz hx
  rw [Addr.add_add' _ _ _ (.inr (.inr trivial)), hr] at h
  exact h
end
end Go.PBYtadaihpeionniaa
end
section
namespace Go.Proofs.Ytadaihpeionniaa
open Go.RowKit Go.PBYtadaihpeionniaa
set_option linter.unusedVariables false
set_option linter.unusedSimpArgs false
set_option maxRecDepth 10000
theorem ofSize : (Try.prog.info? 52).map (·.size) = some 138 := by kernel_rfl
theorem ofZero : (Try.prog.info? 52).map (fun i => (i.zero, i.size)) = some (some (Value.agg ([Value.int .i64 0] ++ (([Value.int .i64 0, .int .i64 0] ++ (List.replicate 32 (Value.int .u8 0) ++ ((List.replicate 32 (Value.int .u8 0) ++ [Value.int .i64 0, .int .i64 0]) ++ [Value.slice none 0 0]))) ++ ([Value.int .i64 0, .int .i64 0, .int .i64 0, .int .i64 0] ++ (List.replicate 32 (Value.int .u8 0) ++ List.replicate 32 (Value.int .u8 0))))).toArray), 138) := by kernel_rfl
def DlC (S : List Nat) (w0 : World) (LL : List Res) (q b : Nat) (c0 c1 : List Value) (s : Nat) (w' : World) : Prop :=
  match s with
  | 0 => St S w0 (LL.set q (.blk b 52 c0)) w'
  | _ => St S w0 (LL.set q (.blk b 52 c1)) w'
set_option maxHeartbeats 1600000 in
theorem delete_calls {S : List Nat} {w0 w : World} {LL : List Res} {q n : Nat} {v : Value} {xs : List Value} (j : Nat) (H : St S w0 LL w) (hq : LL[q]? = some (.row 52 138 v n xs)) (hj : j < n) (h1 : ∀ u ∈ xs, u.oneCell' = true) :
    Calls Try.prog 18 #[v, .int .i64 j, .int .i64 ((j : Int) + 1)] w fun e w' => ∃ v', e = .returned v' ∧ St S w0 (LL.set q (.row 52 138 v' (n - 1) (xs.take (j * 138) ++ xs.drop ((j + 1) * 138)))) w' := by
  obtain ⟨hlen, hrow⟩ := H.get hq
  rcases hrow with ⟨rfl, rfl⟩ | ⟨b, cap, more, rfl, hnc, hcm, hcl, hblk⟩
  · omega
  have hlt : q < LL.length := (List.getElem?_eq_some_iff.1 hq).1
  have H1 := H.as hq (r' := .blk b 52 (xs ++ more)) hblk rfl
  have hq1 : (LL.set q (.blk b 52 (xs ++ more)))[q]? = some (.blk b 52 (xs ++ more)) := by simp [hlt]
  obtain ⟨m, hm⟩ : ∃ m, n = j + 1 + m := ⟨n - (j + 1), by omega⟩
  subst hm
  have hlen' := Lib.hid hlen
  have hcl' := Lib.hid hcl
  have hone := Lib.hid h1
  have hq1' := Lib.hid hq1
  clear hlen hcl h1 hq1 hblk hq H
  have hne : ((j : Int) == (j : Int) + 1) = false := by rw [beq_eq_false_iff_ne]; omega
  obtain ⟨o, ho⟩ : ∃ o, o = if cap = j + 1 then 0 else (j + 1) * 138 := ⟨_, rfl⟩
  have ho' := Lib.hid ho
  clear ho
  obtain ⟨news, hnews⟩ : ∃ news, news = ((xs ++ more).drop o).take (m * 138) := ⟨_, rfl⟩
  have hnews2 : Hid (news = xs.drop ((j + 1) * 138)) := by
    show _ = _
    have h2 := hlen'.out
    have h3 := hcl'.out
    by_cases hc : cap = j + 1
    · have : m = 0 := by omega
      subst this
      have h6 : xs.drop ((j + 1) * 138) = [] := List.drop_eq_nil_of_le (by rw [h2]; omega)
      rw [hnews, h6]
      simp
    · rw [hnews, ho'.out, if_neg hc, List.drop_append_of_le_length (by rw [h2]; omega), List.take_append_of_le_length (by rw [List.length_drop, h2]; omega), List.take_of_length_le (by rw [List.length_drop, h2]; omega)]
  have hnews1 := Lib.hid hnews
  clear hnews
  go_enter Try.func18, Try.ntmps18
  go_wp2_with (first | (with_reducible refine stop_box ?_) | (with_reducible refine stop_alloc ?_) | (with_reducible refine stop_load ?_) | (with_reducible refine stop_store ?_) | (with_reducible refine stop_make ?_) | (with_reducible refine stop_lit ?_) | (with_reducible refine stop_append ?_) | (with_reducible refine stop_copy ?_) | (with_reducible refine stop_map ?_) | (with_reducible refine stop_lookup ?_) | (with_reducible refine stop_update ?_) | (with_reducible refine stop_delete ?_) | (with_reducible refine stop_clear ?_) | (with_reducible refine stop_arr ?_) | (with_reducible refine stop_idx ?_) | (with_reducible refine stop_slice ?_) | (with_reducible refine stop_conv (e := 34) (f := 9) ?_) | ((with_reducible refine stopg_box ?hw ?_); case hw => rfl) | ((with_reducible refine stopg_alloc ?hw ?_); case hw => rfl) | ((with_reducible refine stopg_load ?hw ?_); case hw => rfl) | ((with_reducible refine stopg_store ?hw ?_); case hw => rfl) | ((with_reducible refine stopg_make ?hw ?_); case hw => rfl) | ((with_reducible refine stopg_lit ?hw ?_); case hw => rfl) | ((with_reducible refine stopg_append ?hw ?_); case hw => rfl) | ((with_reducible refine stopg_copy ?hw ?_); case hw => rfl) | ((with_reducible refine stopg_map ?hw ?_); case hw => rfl) | ((with_reducible refine stopg_lookup ?hw ?_); case hw => rfl) | ((with_reducible refine stopg_update ?hw ?_); case hw => rfl) | ((with_reducible refine stopg_delete ?hw ?_); case hw => rfl) | ((with_reducible refine stopg_clear ?hw ?_); case hw => rfl) | ((with_reducible refine stopg_arr ?hw ?_); case hw => rfl) | ((with_reducible refine stopg_slice ?hw ?_); case hw => rfl) | ((with_reducible refine stopg_conv (e := 34) (f := 9) ?hw ?_); case hw => rfl) | ((with_reducible refine stopg_idx ?hw ?_); case hw => rfl))
  refine wpl_want rfl (opw_slice3 (l := j) (h := j + 1) (m := j + 1 + m) Try.underlying46 ofSize rfl rfl rfl rfl (by omega) (by omega) hnc (fun B => ?_))
  go_wp2_with (first | (with_reducible refine stop_box ?_) | (with_reducible refine stop_alloc ?_) | (with_reducible refine stop_load ?_) | (with_reducible refine stop_store ?_) | (with_reducible refine stop_make ?_) | (with_reducible refine stop_lit ?_) | (with_reducible refine stop_append ?_) | (with_reducible refine stop_copy ?_) | (with_reducible refine stop_map ?_) | (with_reducible refine stop_lookup ?_) | (with_reducible refine stop_update ?_) | (with_reducible refine stop_delete ?_) | (with_reducible refine stop_clear ?_) | (with_reducible refine stop_arr ?_) | (with_reducible refine stop_idx ?_) | (with_reducible refine stop_slice ?_) | (with_reducible refine stop_conv (e := 34) (f := 9) ?_) | ((with_reducible refine stopg_box ?hw ?_); case hw => rfl) | ((with_reducible refine stopg_alloc ?hw ?_); case hw => rfl) | ((with_reducible refine stopg_load ?hw ?_); case hw => rfl) | ((with_reducible refine stopg_store ?hw ?_); case hw => rfl) | ((with_reducible refine stopg_make ?hw ?_); case hw => rfl) | ((with_reducible refine stopg_lit ?hw ?_); case hw => rfl) | ((with_reducible refine stopg_append ?hw ?_); case hw => rfl) | ((with_reducible refine stopg_copy ?hw ?_); case hw => rfl) | ((with_reducible refine stopg_map ?hw ?_); case hw => rfl) | ((with_reducible refine stopg_lookup ?hw ?_); case hw => rfl) | ((with_reducible refine stopg_update ?hw ?_); case hw => rfl) | ((with_reducible refine stopg_delete ?hw ?_); case hw => rfl) | ((with_reducible refine stopg_clear ?hw ?_); case hw => rfl) | ((with_reducible refine stopg_arr ?hw ?_); case hw => rfl) | ((with_reducible refine stopg_slice ?hw ?_); case hw => rfl) | ((with_reducible refine stopg_conv (e := 34) (f := 9) ?hw ?_); case hw => rfl) | ((with_reducible refine stopg_idx ?hw ?_); case hw => rfl))
  refine wp_region_chain (n := 33) [6] (fun s v w' => DlC S w0 LL q b (xs ++ more) (splice (xs ++ more) (j * 138) news) s w') (regF [fun v _ => v = .slice (some ⟨b, 0, none⟩) (j + 1 + m) cap, fun v _ => v = .int .i64 j, fun v _ => v = .slice (some ⟨b, 0, none⟩) j cap, fun v _ => v = .slice (some ⟨b, 0, none⟩) (j + 1 + m) cap, fun v _ => v = .int .i64 ((j : Int) + 1), fun v _ => v = .slice (some ⟨b, o, none⟩) (j + 1 + m - (j + 1)) (cap - (j + 1)), fun v _ => v = .slice (some ⟨b, 0, none⟩) (j + m) cap, fun v _ => v = .slice (some ⟨b, 0, none⟩) (j + m) cap]) [[], [], [(20, 0), (21, 1)], [], [], [(23, 3), (24, 4)], [(22, 2), (25, 5)], [(26, 6), (20, 0), (21, 1), (22, 2), (23, 3), (24, 4), (25, 5)]] [(20, 0), (21, 1), (22, 2), (23, 3), (24, 4), (25, 5), (26, 6), (0, 7)] (by kernel_rfl) (by kernel_rfl) rfl H1.drew ⟨?_, ?_, ?_, ?_, ?_, ?_, ?_, ?_, trivial⟩ ?_
  · intro s9 v9 vx w9 hs hv9 hC hF
    clear hF
    refine ⟨trivial, ?_⟩
    simp only [putsOf]
    exact opw_val (v := .slice (some ⟨b, 0, none⟩) (j + 1 + m) cap) (w' := w9) (by go_simp <;> (simp only [IntKind.wrap_u64, IntKind.wrap_i64] <;> omega)) ⟨_, rfl, by simp, (by rw [if_neg (by decide)]; exact hC), (fun _ _ h => h), rfl⟩
  · intro s9 v9 vx w9 hs hv9 hC hF
    clear hF
    refine ⟨trivial, ?_⟩
    simp only [putsOf]
    exact opw_val (v := .int .i64 j) (w' := w9) (by go_simp <;> (simp only [IntKind.wrap_u64, IntKind.wrap_i64] <;> omega)) ⟨_, rfl, by simp, (by rw [if_neg (by decide)]; exact hC), (fun _ _ h => h), rfl⟩
  · intro s9 v9 vx w9 hs hv9 hC hF
    have q0 : (vx 0) = .slice (some ⟨b, 0, none⟩) (j + 1 + m) cap := hF (20, 0) (by simp)
    have q1 : (vx 1) = .int .i64 j := hF (21, 1) (by simp)
    clear hF
    refine ⟨trivial, ?_⟩
    simp only [putsOf, q0, q1]
    exact opw_sliceAt 0 j Try.underlying46 ofSize rfl (.inl ⟨rfl, rfl⟩) (.inr ⟨.i64, _, rfl, rfl⟩) (by omega) (by omega) 0 (by split <;> omega) ⟨_, rfl, by simp, (by rw [if_neg (by decide)]; exact hC), (fun _ _ h => h), rfl⟩
  · intro s9 v9 vx w9 hs hv9 hC hF
    clear hF
    refine ⟨trivial, ?_⟩
    simp only [putsOf]
    exact opw_val (v := .slice (some ⟨b, 0, none⟩) (j + 1 + m) cap) (w' := w9) (by go_simp <;> (simp only [IntKind.wrap_u64, IntKind.wrap_i64] <;> omega)) ⟨_, rfl, by simp, (by rw [if_neg (by decide)]; exact hC), (fun _ _ h => h), rfl⟩
  · intro s9 v9 vx w9 hs hv9 hC hF
    clear hF
    refine ⟨trivial, ?_⟩
    simp only [putsOf]
    exact opw_val (v := .int .i64 ((j : Int) + 1)) (w' := w9) (by go_simp <;> (simp only [IntKind.wrap_u64, IntKind.wrap_i64] <;> omega)) ⟨_, rfl, by simp, (by rw [if_neg (by decide)]; exact hC), (fun _ _ h => h), rfl⟩
  · intro s9 v9 vx w9 hs hv9 hC hF
    have q3 : (vx 3) = .slice (some ⟨b, 0, none⟩) (j + 1 + m) cap := hF (23, 3) (by simp)
    have q4 : (vx 4) = .int .i64 ((j : Int) + 1) := hF (24, 4) (by simp)
    clear hF
    refine ⟨trivial, ?_⟩
    simp only [putsOf, q3, q4]
    exact opw_sliceAt (j + 1) (j + 1 + m) Try.underlying46 ofSize rfl (.inr ⟨.i64, _, rfl, rfl⟩) (.inl ⟨rfl, rfl⟩) (by omega) (by omega) o ho'.out ⟨_, rfl, by simp, (by rw [if_neg (by decide)]; exact hC), (fun _ _ h => h), rfl⟩
  · intro s9 v9 vx w9 hs hv9 hC hF
    have q2 : (vx 2) = .slice (some ⟨b, 0, none⟩) j cap := hF (22, 2) (by simp)
    have q5 : (vx 5) = .slice (some ⟨b, o, none⟩) (j + 1 + m - (j + 1)) (cap - (j + 1)) := hF (25, 5) (by simp)
    clear hF
    obtain rfl : s9 = 0 := by have h9 := hs (by decide); rcases s9 with _ | _ | _ | _ | s9 <;> simp at h9 <;> rfl
    refine ⟨trivial, ?_⟩
    simp only [putsOf, q2, q5]
    have H9 : St S w0 (LL.set q (.blk b 52 (xs ++ more))) w9 := hC
    have hs9 : SlAt w9 (some ⟨b, o, none⟩) news := by rw [hnews1.out]; exact ((H9.blk hq1'.out).sl o).take _
    have h2 := hlen'.out
    have h3 := hcl'.out
    have h5 : news.length = m * 138 := by rw [hnews2.out, List.length_drop, h2]; omega
    rw [show j + 1 + m - (j + 1) = m by omega]
    refine opw_appendIn (k := q) (n := j) (m := m) H9 hq1'.out Try.underlying46 Try.underlying46 ofSize rfl rfl hs9 h5 (fun u hu => hone.out u (by rw [hnews2.out] at hu; exact List.mem_of_mem_drop hu)) (by omega) (by rw [h3]; omega) ?_
    intro w4 H4
    rw [List.set_set] at H4
    exact ⟨_, rfl, by simp, (by rw [if_pos (by decide)]; exact H4), (fun _ _ h => regF_const (by simp [allConst, Const.eq, Const.true]) h), rfl⟩
  · intro s9 v9 vx w9 hs hv9 hC hF
    have q6 : (vx 6) = .slice (some ⟨b, 0, none⟩) (j + m) cap := hF (26, 6) (by simp)
    have q0 : (vx 0) = .slice (some ⟨b, 0, none⟩) (j + 1 + m) cap := hF (20, 0) (by simp)
    have q1 : (vx 1) = .int .i64 j := hF (21, 1) (by simp)
    have q2 : (vx 2) = .slice (some ⟨b, 0, none⟩) j cap := hF (22, 2) (by simp)
    have q3 : (vx 3) = .slice (some ⟨b, 0, none⟩) (j + 1 + m) cap := hF (23, 3) (by simp)
    have q4 : (vx 4) = .int .i64 ((j : Int) + 1) := hF (24, 4) (by simp)
    have q5 : (vx 5) = .slice (some ⟨b, o, none⟩) (j + 1 + m - (j + 1)) (cap - (j + 1)) := hF (25, 5) (by simp)
    clear hF
    refine ⟨trivial, ?_⟩
    simp only [putsOf, q6, q0, q1, q2, q3, q4, q5]
    exact opw_val (v := .slice (some ⟨b, 0, none⟩) (j + m) cap) (w' := w9) (by go_simp <;> (simp only [IntKind.wrap_u64, IntKind.wrap_i64] <;> omega)) ⟨_, rfl, by simp, (by rw [if_neg (by decide)]; exact hC), (fun _ _ h => h), rfl⟩
  intro vx w9 hC hF
  have q0 : (vx 0) = .slice (some ⟨b, 0, none⟩) (j + 1 + m) cap := hF 0 (by simp)
  have q1 : (vx 1) = .int .i64 j := hF 1 (by simp)
  have q2 : (vx 2) = .slice (some ⟨b, 0, none⟩) j cap := hF 2 (by simp)
  have q3 : (vx 3) = .slice (some ⟨b, 0, none⟩) (j + 1 + m) cap := hF 3 (by simp)
  have q4 : (vx 4) = .int .i64 ((j : Int) + 1) := hF 4 (by simp)
  have q5 : (vx 5) = .slice (some ⟨b, o, none⟩) (j + 1 + m - (j + 1)) (cap - (j + 1)) := hF 5 (by simp)
  have q6 : (vx 6) = .slice (some ⟨b, 0, none⟩) (j + m) cap := hF 6 (by simp)
  have q7 : (vx 7) = .slice (some ⟨b, 0, none⟩) (j + m) cap := hF 7 (by simp)
  clear hF
  simp only [putsOf, q0, q1, q2, q3, q4, q5, q6, q7]
  simp only [Act.put, List.setIfInBounds_toArray, List.set_cons_succ, List.set_cons_zero]
  clear q0 q1 q2 q3 q4 q5 q6 q7
  have H2 : St S w0 (LL.set q (.blk b 52 (splice (xs ++ more) (j * 138) news))) w9 := hC
  clear hC
  go_wp2_with (first | (with_reducible refine stop_box ?_) | (with_reducible refine stop_alloc ?_) | (with_reducible refine stop_load ?_) | (with_reducible refine stop_store ?_) | (with_reducible refine stop_make ?_) | (with_reducible refine stop_lit ?_) | (with_reducible refine stop_append ?_) | (with_reducible refine stop_copy ?_) | (with_reducible refine stop_map ?_) | (with_reducible refine stop_lookup ?_) | (with_reducible refine stop_update ?_) | (with_reducible refine stop_delete ?_) | (with_reducible refine stop_clear ?_) | (with_reducible refine stop_arr ?_) | (with_reducible refine stop_idx ?_) | (with_reducible refine stop_slice ?_) | (with_reducible refine stop_conv (e := 34) (f := 9) ?_) | ((with_reducible refine stopg_box ?hw ?_); case hw => rfl) | ((with_reducible refine stopg_alloc ?hw ?_); case hw => rfl) | ((with_reducible refine stopg_load ?hw ?_); case hw => rfl) | ((with_reducible refine stopg_store ?hw ?_); case hw => rfl) | ((with_reducible refine stopg_make ?hw ?_); case hw => rfl) | ((with_reducible refine stopg_lit ?hw ?_); case hw => rfl) | ((with_reducible refine stopg_append ?hw ?_); case hw => rfl) | ((with_reducible refine stopg_copy ?hw ?_); case hw => rfl) | ((with_reducible refine stopg_map ?hw ?_); case hw => rfl) | ((with_reducible refine stopg_lookup ?hw ?_); case hw => rfl) | ((with_reducible refine stopg_update ?hw ?_); case hw => rfl) | ((with_reducible refine stopg_delete ?hw ?_); case hw => rfl) | ((with_reducible refine stopg_clear ?hw ?_); case hw => rfl) | ((with_reducible refine stopg_arr ?hw ?_); case hw => rfl) | ((with_reducible refine stopg_slice ?hw ?_); case hw => rfl) | ((with_reducible refine stopg_conv (e := 34) (f := 9) ?hw ?_); case hw => rfl) | ((with_reducible refine stopg_idx ?hw ?_); case hw => rfl))
  have h2 := hlen'.out
  have h3 := hcl'.out
  have h5 : news.length = m * 138 := by rw [hnews2.out, List.length_drop, h2]; omega
  have hsl : (splice (xs ++ more) (j * 138) news).length = cap * 138 := by simp only [splice, List.length_append, List.length_take, List.length_drop] at h3 ⊢; omega
  have hsl' := Lib.hid hsl
  have h5' := Lib.hid h5
  clear hsl h2 h3 h5
  have hset : ∀ r : Res, (LL.set q r)[q]? = some r := fun r => by simp [hlt]
  have hset' := Lib.hid hset
  clear hset
  refine wpl_want rfl (opw_sliceAt (j + m) (j + 1 + m) Try.underlying46 ofSize rfl (.inr ⟨.i64, _, rfl, rfl⟩) (.inr ⟨.i64, _, rfl, rfl⟩) (by omega) (by omega) ((j + m) * 138) (by rw [if_neg (by omega)]) ?_)
  rw [show j + 1 + m - (j + m) = 1 by omega]
  go_wp2_with (first | (with_reducible refine stop_box ?_) | (with_reducible refine stop_alloc ?_) | (with_reducible refine stop_load ?_) | (with_reducible refine stop_store ?_) | (with_reducible refine stop_make ?_) | (with_reducible refine stop_lit ?_) | (with_reducible refine stop_append ?_) | (with_reducible refine stop_copy ?_) | (with_reducible refine stop_map ?_) | (with_reducible refine stop_lookup ?_) | (with_reducible refine stop_update ?_) | (with_reducible refine stop_delete ?_) | (with_reducible refine stop_clear ?_) | (with_reducible refine stop_arr ?_) | (with_reducible refine stop_idx ?_) | (with_reducible refine stop_slice ?_) | (with_reducible refine stop_conv (e := 34) (f := 9) ?_) | ((with_reducible refine stopg_box ?hw ?_); case hw => rfl) | ((with_reducible refine stopg_alloc ?hw ?_); case hw => rfl) | ((with_reducible refine stopg_load ?hw ?_); case hw => rfl) | ((with_reducible refine stopg_store ?hw ?_); case hw => rfl) | ((with_reducible refine stopg_make ?hw ?_); case hw => rfl) | ((with_reducible refine stopg_lit ?hw ?_); case hw => rfl) | ((with_reducible refine stopg_append ?hw ?_); case hw => rfl) | ((with_reducible refine stopg_copy ?hw ?_); case hw => rfl) | ((with_reducible refine stopg_map ?hw ?_); case hw => rfl) | ((with_reducible refine stopg_lookup ?hw ?_); case hw => rfl) | ((with_reducible refine stopg_update ?hw ?_); case hw => rfl) | ((with_reducible refine stopg_delete ?hw ?_); case hw => rfl) | ((with_reducible refine stopg_clear ?hw ?_); case hw => rfl) | ((with_reducible refine stopg_arr ?hw ?_); case hw => rfl) | ((with_reducible refine stopg_slice ?hw ?_); case hw => rfl) | ((with_reducible refine stopg_conv (e := 34) (f := 9) ?hw ?_); case hw => rfl) | ((with_reducible refine stopg_idx ?hw ?_); case hw => rfl))
  refine wpl_want rfl (opw_clear (n := 1) (k := q) (off := (j + m) * 138) H2 (hset'.out _) Try.underlying46 ofZero rfl rfl (by omega) (by have := hsl'.out; omega) (List.all_eq_true.1 (by kernel_rfl)) ?_)
  intro w3 H3
  rw [List.set_set] at H3
  go_wp2_with (first | (with_reducible refine stop_box ?_) | (with_reducible refine stop_alloc ?_) | (with_reducible refine stop_load ?_) | (with_reducible refine stop_store ?_) | (with_reducible refine stop_make ?_) | (with_reducible refine stop_lit ?_) | (with_reducible refine stop_append ?_) | (with_reducible refine stop_copy ?_) | (with_reducible refine stop_map ?_) | (with_reducible refine stop_lookup ?_) | (with_reducible refine stop_update ?_) | (with_reducible refine stop_delete ?_) | (with_reducible refine stop_clear ?_) | (with_reducible refine stop_arr ?_) | (with_reducible refine stop_idx ?_) | (with_reducible refine stop_conv (e := 34) (f := 9) ?_) | ((with_reducible refine stopg_box ?hw ?_); case hw => rfl) | ((with_reducible refine stopg_alloc ?hw ?_); case hw => rfl) | ((with_reducible refine stopg_load ?hw ?_); case hw => rfl) | ((with_reducible refine stopg_store ?hw ?_); case hw => rfl) | ((with_reducible refine stopg_make ?hw ?_); case hw => rfl) | ((with_reducible refine stopg_lit ?hw ?_); case hw => rfl) | ((with_reducible refine stopg_append ?hw ?_); case hw => rfl) | ((with_reducible refine stopg_copy ?hw ?_); case hw => rfl) | ((with_reducible refine stopg_map ?hw ?_); case hw => rfl) | ((with_reducible refine stopg_lookup ?hw ?_); case hw => rfl) | ((with_reducible refine stopg_update ?hw ?_); case hw => rfl) | ((with_reducible refine stopg_delete ?hw ?_); case hw => rfl) | ((with_reducible refine stopg_clear ?hw ?_); case hw => rfl) | ((with_reducible refine stopg_arr ?hw ?_); case hw => rfl) | ((with_reducible refine stopg_conv (e := 34) (f := 9) ?hw ?_); case hw => rfl) | ((with_reducible refine stopg_idx ?hw ?_); case hw => rfl))
  go_ret
  have h2 := hlen'.out
  have h3 := hcl'.out
  have h5 := h5'.out
  have h6 := hsl'.out
  have hz : (Builtin.zeroCells (Value.agg ([Value.int .i64 0] ++ (([Value.int .i64 0, .int .i64 0] ++ (List.replicate 32 (Value.int .u8 0) ++ ((List.replicate 32 (Value.int .u8 0) ++ [Value.int .i64 0, .int .i64 0]) ++ [Value.slice none 0 0]))) ++ ([Value.int .i64 0, .int .i64 0, .int .i64 0, .int .i64 0] ++ (List.replicate 32 (Value.int .u8 0) ++ List.replicate 32 (Value.int .u8 0))))).toArray).cells 1).toList.length = 138 := by kernel_rfl
  obtain ⟨zs, hzs⟩ : ∃ zs, zs = (Builtin.zeroCells (Value.agg ([Value.int .i64 0] ++ (([Value.int .i64 0, .int .i64 0] ++ (List.replicate 32 (Value.int .u8 0) ++ ((List.replicate 32 (Value.int .u8 0) ++ [Value.int .i64 0, .int .i64 0]) ++ [Value.slice none 0 0]))) ++ ([Value.int .i64 0, .int .i64 0, .int .i64 0, .int .i64 0] ++ (List.replicate 32 (Value.int .u8 0) ++ List.replicate 32 (Value.int .u8 0))))).toArray).cells 1).toList := ⟨_, rfl⟩
  rw [← hzs] at H3 hz
  have hgot := H3.blk (k := q) (hset'.out _)
  have hx : splice (splice (xs ++ more) (j * 138) news) ((j + m) * 138) zs = (xs.take (j * 138) ++ xs.drop ((j + 1) * 138)) ++ (zs ++ (splice (xs ++ more) (j * 138) news).drop ((j + m) * 138 + 138)) := by
    have e1 : splice (xs ++ more) (j * 138) news = (xs.take (j * 138) ++ news) ++ (xs ++ more).drop (j * 138 + news.length) := by
      unfold splice
      rw [List.take_append_of_le_length (by omega), List.append_assoc]
    have e2 : (xs.take (j * 138) ++ news).length = (j + m) * 138 := by simp; omega
    have e3 : (splice (xs ++ more) (j * 138) news).take ((j + m) * 138) = xs.take (j * 138) ++ news := by rw [e1, List.take_left' e2]
    show List.take ((j + m) * 138) (splice (xs ++ more) (j * 138) news) ++ (zs ++ List.drop ((j + m) * 138 + zs.length) (splice (xs ++ more) (j * 138) news)) = _
    rw [e3, hz, hnews2.out]
  rw [hx] at hgot
  refine ⟨_, rfl, ?_⟩
  have H4 := H3.as (k := q) (r' := .row 52 138 (.slice (some ⟨b, 0, none⟩) (j + m) cap) (j + 1 + m - 1) (xs.take (j * 138) ++ xs.drop ((j + 1) * 138))) (hset'.out _) ?_ rfl
  · rwa [List.set_set] at H4
  · rw [show j + 1 + m - 1 = j + m by omega]
    refine ⟨by simp; omega, .inr ⟨b, cap, _, rfl, by omega, hcm, ?_, hgot⟩⟩
    rw [← hx]
    simp only [splice, List.length_append, List.length_take, List.length_drop] at h6 ⊢
    omega
end Go.Proofs.Ytadaihpeionniaa
end
section
namespace Go.PBYtadaihpeionniaa
open Go Go.RowKit Go.ChangeShapes Go.WideShapes Go.ChangeAt Go.Deep
set_option linter.unusedSimpArgs false
set_option linter.unusedVariables false
def FsArg (w : World) (v : Value) (vs : List (List Value)) : Prop := ∃ A c, v = .slice A vs.length c ∧ vs.length ≤ c ∧ c ≤ 9223372036854775807 ∧ SlAt w A vs.flatten
theorem flatten_get {sz : Nat} (hz : 0 < sz) : ∀ (vs : List (List Value)), (∀ u ∈ vs, u.length = sz) → ∀ (j : Nat) (v : Value), vs.flatten[j]? = some v → ∃ u, vs[j / sz]? = some u ∧ u[j % sz]? = some v
  | [], _, j, v, h => by simp at h
  | u :: vs, hl, j, v, h => by
    have hu := hl u (by simp)
    rw [List.flatten_cons] at h
    by_cases hj : j < sz
    · rw [List.getElem?_append_left (by omega)] at h
      rw [Nat.div_eq_of_lt hj, Nat.mod_eq_of_lt hj]
      exact ⟨u, rfl, h⟩
    · rw [List.getElem?_append_right (by omega), hu] at h
      obtain ⟨u', h1, h2⟩ := flatten_get hz vs (fun x hx => hl x (by simp [hx])) (j - sz) v h
      have e1 : j / sz = (j - sz) / sz + 1 := by
        conv => lhs; rw [show j = (j - sz) + sz by omega]
        exact Nat.add_div_right _ hz
      have e2 : j % sz = (j - sz) % sz := by
        conv => lhs; rw [show j = (j - sz) + sz by omega]
        exact Nat.add_mod_right _ _
      rw [e1, e2]
      exact ⟨u', by simpa using h1, h2⟩
theorem flatten_length {sz : Nat} : ∀ (vs : List (List Value)), (∀ u ∈ vs, u.length = sz) → vs.flatten.length = vs.length * sz
  | [], _ => by simp
  | u :: vs, h => by
    rw [List.flatten_cons, List.length_append, h u (by simp), flatten_length vs (fun x hx => h x (by simp [hx])), List.length_cons, Nat.succ_mul]
    omega
theorem flatten_part {sz : Nat} : ∀ (vs : List (List Value)) (i : Nat), (∀ u ∈ vs, u.length = sz) → i < vs.length → (vs.flatten.drop (i * sz)).take sz = vs.getD i []
  | [], i, _, h => by simp at h
  | u :: vs, 0, h, _ => by
    have := h u (by simp)
    rw [Nat.zero_mul, List.drop_zero, List.flatten_cons, List.take_left' this]
    rfl
  | u :: vs, i + 1, h, hi => by
    have he := h u (by simp)
    rw [List.flatten_cons, show (i + 1) * sz = sz + i * sz by rw [Nat.succ_mul]; omega, ← List.drop_drop, List.drop_left' he, flatten_part vs i (fun e' h' => h e' (by simp [h'])) (by simpa using hi)]
    simp
end Go.PBYtadaihpeionniaa
end
section
namespace Go.PBYtadaihpeionniaa
open Go Go.RowKit
set_option linter.unusedVariables false
set_option linter.unusedSimpArgs false
/-- a stamp -/
structure StD where
  e : Int
  f : Int
  t : Int
  ti : Int
  cm : List UInt8
  tg : List UInt8
structure StD.ok (x : StD) : Prop where
  cm : x.cm.length = 32
  tg : x.tg.length = 32
def stC (x : StD) : List Value := [vI x.e, vI x.f, vI x.t, vI x.ti] ++ (bys x.cm ++ bys x.tg)
/-- a mail, without the place of its body -/
structure Mm where
  id : Int
  X : EnvD
  s : StD
structure Mm.ok (m : Mm) : Prop where
  cm : m.X.cm.length = 32
  pub : m.X.pub.length = 32
  s : m.s.ok
abbrev Pl := Option Addr × Nat
def mailV (m : Mm) (sl : Value) : List Value := [vI m.id] ++ (envC m.X.f m.X.t m.X.cm m.X.pub m.X.p m.X.q sl ++ stC m.s)
def mailC (m : Mm) (x : Pl) : List Value := mailV m (.slice x.1 m.X.body.length x.2)
section
variable {m : Mm} {sl : Value}
theorem stC_length {x : StD} (h : x.ok) : (stC x).length = 68 := by simp [stC, bys_length, h.cm, h.tg]
theorem mEnv_len (h : m.ok) : (envC m.X.f m.X.t m.X.cm m.X.pub m.X.p m.X.q sl).length = 69 := (envC_f h.cm h.pub).len
theorem mailV_length (h : m.ok) : (mailV m sl).length = 138 := by
  rw [mailV, List.length_append, List.length_append, mEnv_len h, stC_length h.s]; rfl
theorem mailV_id : (mailV m sl)[0]? = some (vI m.id) := rfl
theorem mailV_env (h : m.ok) : ((mailV m sl).drop 1).take 69 = envC m.X.f m.X.t m.X.cm m.X.pub m.X.p m.X.q sl := by
  show (envC m.X.f m.X.t m.X.cm m.X.pub m.X.p m.X.q sl ++ stC m.s).take 69 = _
  rw [List.take_left' (mEnv_len h)]
theorem mailV_st (h : m.ok) : ((mailV m sl).drop 70).take 68 = stC m.s := by
  show ((envC m.X.f m.X.t m.X.cm m.X.pub m.X.p m.X.q sl ++ stC m.s).drop 69).take 68 = _
  rw [List.drop_left' (mEnv_len h)]
  exact List.take_of_length_le (by rw [stC_length h.s]; omega)
theorem mailV_sl (h : m.ok) : (mailV m sl)[69]? = some sl := by
  show (envC m.X.f m.X.t m.X.cm m.X.pub m.X.p m.X.q sl ++ stC m.s)[68]? = _
  rw [List.getElem?_append_left (by rw [mEnv_len h]; omega)]
  exact (envC_f h.cm h.pub).g4
theorem mailV_set (h : m.ok) (v : Value) : (mailV m sl).set 69 v = mailV m v := by
  have h1 : (bys m.X.cm).length = 32 := by rw [bys_length, h.cm]
  have h2 := headC_length h.pub m.X.p m.X.q
  have e1 : (envC m.X.f m.X.t m.X.cm m.X.pub m.X.p m.X.q sl).set 68 v = envC m.X.f m.X.t m.X.cm m.X.pub m.X.p m.X.q v := by
    show vI m.X.f :: vI m.X.t :: (bys m.X.cm ++ (headC m.X.pub m.X.p m.X.q ++ [sl])).set 66 v = _
    rw [List.set_append_right _ _ (by omega), List.set_append_right _ _ (by omega), h1, h2]
    rfl
  show vI m.id :: (envC m.X.f m.X.t m.X.cm m.X.pub m.X.p m.X.q sl ++ stC m.s).set 68 v = _
  rw [List.set_append_left _ _ (by rw [mEnv_len h]; omega), e1]
  rfl
theorem stC_one {x : StD} : ∀ u ∈ stC x, u.oneCell' = true := by
  intro u hu
  rcases List.mem_append.1 hu with h | h
  · exact one_all rfl u h
  · rcases List.mem_append.1 h with h | h
    · exact bys_one _ u h
    · exact bys_one _ u h
theorem mailV_one (hs : sl.oneCell' = true) : ∀ u ∈ mailV m sl, u.oneCell' = true := by
  intro u hu
  rcases List.mem_append.1 hu with h | h
  · rw [List.mem_singleton.1 h]; rfl
  · rcases List.mem_append.1 h with h | h
    · exact envC_one hs u h
    · exact stC_one u h
end
/-- mails with the places of their bodies -/
def mailsC (ms : List (Mm × Pl)) : List Value := (ms.map fun y => mailC y.1 y.2).flatten
section
variable {ms : List (Mm × Pl)} {j : Nat} {y : Mm × Pl}
theorem mails_all (h : ∀ y ∈ ms, y.1.ok) : ∀ u ∈ ms.map (fun y => mailC y.1 y.2), u.length = 138 := by
  intro u hu
  obtain ⟨x, hx, rfl⟩ := List.mem_map.1 hu
  exact mailV_length (h x hx)
theorem mailsC_length (h : ∀ y ∈ ms, y.1.ok) : (mailsC ms).length = ms.length * 138 := by
  unfold mailsC
  rw [flatten_length _ (mails_all h), List.length_map]
theorem mailsC_part (h : ∀ y ∈ ms, y.1.ok) (hj : ms[j]? = some y) : ((mailsC ms).drop (j * 138)).take 138 = mailC y.1 y.2 := by
  have hl := (List.getElem?_eq_some_iff.1 hj).1
  have := flatten_part (sz := 138) (ms.map fun y => mailC y.1 y.2) j (mails_all h) (by simpa using hl)
  unfold mailsC
  rw [this, List.getD_eq_getElem?_getD, List.getElem?_map, hj]
  rfl
theorem mailsC_append (L M : List (Mm × Pl)) : mailsC (L ++ M) = mailsC L ++ mailsC M := by simp [mailsC]
theorem mailsC_one (L : List (Mm × Pl)) : ∀ v ∈ mailsC L, v.oneCell' = true := by
  intro v hv
  obtain ⟨u, hu, hv⟩ := List.mem_flatten.1 hv
  obtain ⟨e, _, rfl⟩ := List.mem_map.1 hu
  exact mailV_one rfl v hv
theorem mails_take {j : Nat} (hj : j ≤ ms.length) (hok : ∀ x ∈ ms, x.1.ok) : mailsC (ms.take j) = (mailsC ms).take (j * 138) ∧ mailsC (ms.drop j) = (mailsC ms).drop (j * 138) := by
  have h1 : mailsC ms = mailsC (ms.take j) ++ mailsC (ms.drop j) := by rw [← mailsC_append, List.take_append_drop]
  have h2 : (mailsC (ms.take j)).length = j * 138 := by rw [mailsC_length (fun x hx => hok x (List.mem_of_mem_take hx)), List.length_take, Nat.min_eq_left hj]
  rw [h1, List.take_left' h2, List.drop_left' h2]
  exact ⟨rfl, rfl⟩
theorem mails_erase {j : Nat} (hj : j < ms.length) (hok : ∀ x ∈ ms, x.1.ok) : mailsC (ms.eraseIdx j) = (mailsC ms).take (j * 138) ++ (mailsC ms).drop ((j + 1) * 138) := by
  rw [List.eraseIdx_eq_take_drop_succ, mailsC_append, (mails_take (Nat.le_of_lt hj) hok).1, (mails_take hj hok).2]
end
end Go.PBYtadaihpeionniaa
end
section
namespace Go.Proofs.Ytadaihpeionniaa
open Go Go.RowKit Go.PBYtadaihpeionniaa
set_option linter.unusedVariables false
set_option linter.unusedSimpArgs false
set_option maxRecDepth 10000
set_option maxHeartbeats 2000000 in
theorem own_calls (m : Mm) (h : m.ok) (A : Option Addr) (c : Nat) (hb : m.X.body.length ≤ 1000) (w : World) (hA : SlAt w A (bys m.X.body)) :
    Calls Try.prog 16 #[.agg (mailC m (A, c)).toArray] w fun e w' => ∃ x : Pl, e = .returned (.agg (mailC m x).toArray) ∧ St [] w [bodyR 5 m.X.body x] w' := by
  obtain ⟨n, hn⟩ : ∃ n, m.X.body.length = n := ⟨_, rfl⟩
  have hlm : (mailC m (A, c)).length = 138 := mailV_length h
  have hom : ∀ u ∈ mailC m (A, c), u.oneCell' = true := mailV_one rfl
  have hlv : ∀ v : Value, (mailV m v).length = 138 := fun v => mailV_length h
  have hov : ∀ (B : Option Addr) (k : Nat), ∀ u ∈ mailV m (.slice B n k), u.oneCell' = true := fun B k => mailV_one rfl
  have hsl : (mailC m (A, c))[69]? = some (.slice A n c) := by rw [← hn]; exact mailV_sl h
  have hlb : (bys m.X.body).length = n := by rw [bys_length, hn]
  refine enter (n := 18) (R := fun e L => ∃ x : Pl, e = .returned (.agg (mailC m x).toArray) ∧ ∀ w', St [] w L w' → St [] w [bodyR 5 m.X.body x] w') [.agg (mailC m (A, c)).toArray] Try.func16 rfl rfl rfl (St.refl w) ?_ (fun e w' L' h H => by obtain ⟨x, h1, h2⟩ := h; exact ⟨x, h1, h2 w' H⟩)
  refine VC_seq ?_
  refine VC_region ?_
  refine l_boxA rfl rfl ?_
  intro b1
  refine l_allocA zr52 rfl ?_
  intro b2
  refine vl_nil ?_
  refine (th_n ?_)
  refine VC_seq ?_
  refine VC_region ?_
  refine vl_v (q_fldA fo52_1 (by decide) rfl rfl) rfl ?_
  refine vl_v (q_fldA fo36_4 (by decide) rfl rfl) rfl ?_
  refine vl_v (q_load 1 Try.underlying34 rfl rfl rfl hsl) rfl ?_
  refine vl_v (q_lenS Try.underlying34 rfl) rfl ?_
  refine l_makeZ Try.underlying34 in5 rfl rfl rfl (by omega) (by unfold maxLen; omega) rfl (repB _) ?_
  intro b8
  refine vl_v (q_assign rfl) rfl ?_
  refine vl_nil ?_
  refine (th_n ?_)
  refine VC_seq ?_
  refine VC_region ?_
  refine vl_v (q_move rfl) rfl ?_
  refine vl_v (q_fldA fo52_1 (by decide) rfl rfl) rfl ?_
  refine vl_v (q_fldA fo36_4 (by decide) rfl rfl) rfl ?_
  refine vl_v (q_load 2 Try.underlying34 rfl rfl rfl hsl) rfl ?_
  refine l_copy 0 rfl rfl rfl Try.underlying34 Try.underlying34 sz5 (Reads.old hA) (by omega) (by with_reducible first | exact bys_one _ | exact u32s_one _ | exact u64s_one _ | exact i64s_one _ | exact n64s_one _ | assumption) (by simp only [zs, zr, zm, za, zb, zu, zw, zi, zt, zd, zc, zn, *] <;> first | done | omega) rfl ?_
  simp only [List.set_cons_zero, List.set_cons_succ]
  refine vl_nil ?_
  refine (th_n ?_)
  refine VC_seq ?_
  refine VC_region ?_
  refine vl_v (q_move rfl) rfl ?_
  refine vl_v (q_fldA fo52_1 (by decide) rfl rfl) rfl ?_
  refine vl_v (q_fldA fo36_4 (by decide) rfl rfl) rfl ?_
  refine l_store1 2 rfl rfl rfl sz34 rfl (by omega) ?_
  simp only [List.set_cons_zero, List.set_cons_succ]
  refine vl_nil ?_
  refine (th_n ?_)
  refine VC_seq ?_
  rw [show ((mailC m (A, c)).set (0 + 1 + 68) (.slice (some ⟨b8, 0, none⟩) n n)) = mailV m (.slice (some ⟨b8, 0, none⟩) n n) from mailV_set h _]
  have hov8 := hov (some ⟨b8, 0, none⟩) n
  have hlv8 := hlv (.slice (some ⟨b8, 0, none⟩) n n)
  refine VC_region ?_
  refine vl_v (q_loads 2 Try.underlying52 rfl rfl rfl sz52 (by omega)) rfl ?_
  refine l_storeA 1 rfl rfl rfl sz52 (by omega) (by with_reducible first | exact bys_one _ | exact u32s_one _ | exact u64s_one _ | exact i64s_one _ | exact n64s_one _ | assumption) (by simp only [zs, zr, zm, za, zb, zu, zw, zi, zt, zd, zc, zn, *] <;> first | done | omega) ?_
  simp only [List.set_cons_zero, List.set_cons_succ]
  refine vl_nil ?_
  refine (th_n ?_)
  refine VC_ret ?_
  refine ⟨_, resC1 1 rfl Try.underlying52 rfl rfl rfl sz52 (by omega), ?_⟩
  subst hn
  refine ⟨(some ⟨b8, 0, none⟩, _), rfl, fun w' H' => ?_⟩
  have H2 := St.pick H' (ks := [0]) (by decide) rfl
  have hsp : splice (bys (List.replicate m.X.body.length 0)) 0 (List.take (min m.X.body.length m.X.body.length) (bys m.X.body)) = bys m.X.body := by
    rw [Nat.min_self, List.take_of_length_le (by rw [bys_length]; exact Nat.le_refl _)]
    simp only [splice, List.take_zero, List.nil_append, Nat.zero_add]
    rw [List.drop_eq_nil_of_le (by rw [bys_length, bys_length, List.length_replicate]; exact Nat.le_refl _), List.append_nil]
  rw [hsp] at H2
  exact H2.toRow (k := 0) rfl (by rw [Nat.mul_one]; exact hlb) (by unfold maxLen; omega)
end Go.Proofs.Ytadaihpeionniaa
end
section
namespace Go.PBYtadaihpeionniaa
open Go Go.RowKit
/-- the place of a mail's body -/
def plOf (v : Value) : Pl := match v with
  | .agg cs => match (cs.toList[69]? : Option Value) with
    | some (Value.slice A _ c) => (A, c)
    | _ => (none, 0)
  | _ => (none, 0)
theorem plOf_mail {m : Mm} (h : m.ok) (x : Pl) : plOf (.agg (mailC m x).toArray) = x := by
  simp only [plOf]
  rw [show (mailC m x)[69]? = some (.slice x.1 m.X.body.length x.2) from mailV_sl h]
theorem mailsC_one1 (y : Mm × Pl) : mailsC [y] = mailC y.1 y.2 := by simp [mailsC]
end Go.PBYtadaihpeionniaa
namespace Go.Proofs.Ytadaihpeionniaa
open Go Go.RowKit Go.PBYtadaihpeionniaa
set_option linter.unusedVariables false
set_option linter.unusedSimpArgs false
set_option maxRecDepth 10000
def nOwn (b : List UInt8) (v : Value) : List Res := [bodyR 5 b (plOf v)]
theorem nOwn_mail {m : Mm} (h : m.ok) (x : Pl) : nOwn m.X.body (.agg (mailC m x).toArray) = [bodyR 5 m.X.body x] := by rw [nOwn, plOf_mail h]
def BoxR (b : Nat) (A : Option Addr) (c : Nat) (ms : List (Mm × Pl)) (many : Nat) : List Res :=
  [.blk b 57 [.slice A ms.length c, vN many], .row 52 138 (.slice A ms.length c) ms.length (mailsC ms)]
set_option maxHeartbeats 1000000 in
theorem new_calls (w : World) : Calls Try.prog 8 #[] w fun e w' => ∃ b : Nat, e = .returned (vP b 0) ∧ St [] w (BoxR b none 0 [] 0) w' := by
  refine enter (n := 3) (R := fun e L => ∃ b : Nat, e = .returned (vP b 0) ∧ ∀ w', St [] w L w' → St [] w (BoxR b none 0 [] 0) w') [] Try.func8 rfl rfl rfl (St.refl w) ?_ (fun e w' L' h H => by obtain ⟨b, h1, h2⟩ := h; exact ⟨b, h1, h2 w' H⟩)
  refine VC_seq ?_
  refine VC_region ?_
  refine vl_v (q_assign rfl) rfl ?_
  refine vl_nil ?_
  refine (th_n ?_)
  refine VC_seq ?_
  refine VC_region ?_
  refine vl_v (q_build (c' := [.slice none 0 0, vN 0]) rfl (by kernel_rfl)) rfl ?_
  refine l_boxA rfl rfl ?_
  intro b2
  refine vl_v (q_assign rfl) rfl ?_
  refine vl_nil ?_
  refine (th_n ?_)
  refine VC_ret ?_
  refine ⟨_, res1 rfl rfl, ?_⟩
  exact ⟨_, rfl, fun w' H' => H'.addNil 52 138⟩
set_option maxHeartbeats 4000000 in
theorem put_bad {S : List Nat} {w0 w : World} {b c many : Nat} {A : Option Addr} {ms : List (Mm × Pl)} (X : EnvD) (s : StD) (A0 : Option Addr) (c0 : Nat) (hc : X.cm.length = 32) (hp : X.pub.length = 32) (hs : s.ok) (hms : ∀ y ∈ ms, y.1.ok) (hR : ∀ L, Reads S w0 L A0 (bys X.body)) (H : St S w0 (BoxR b A c ms many) w) (he : enR X = false) :
    Calls Try.prog 9 #[vP b 0, .agg (envOf X (A0, c0)).toArray, .agg (stC s).toArray] w fun r w' => r = .returned (.tuple #[vN 0, vN 1]) ∧ St S w0 (BoxR b A c ms many) w' := by
  have lX : (envOf X (A0, c0)).length = 69 := (envC_f hc hp).len
  have oX : ∀ u ∈ envOf X (A0, c0), u.oneCell' = true := envC_one rfl
  have ls := stC_length hs
  have os := stC_one (x := s)
  have hml := mailsC_length hms
  have hm1 := mailsC_one ms
  have hE : ∀ w, SlAt w A0 (bys X.body) → Calls Try.prog 15 #[.agg (envOf X (A0, c0)).toArray] w (fun e w' => ∃ x : Pl, e = .returned (.tuple #[.slice x.1 (enB X).length x.2, vN (enK X)]) ∧ St [] w [bodyR 5 (enB X) x] w') := fun w hs => henv_calls X A0 c0 hc hp w hs
  replace H : St S w0 [.blk b 57 [.slice A ms.length c, vN many], .row 52 138 (.slice A ms.length c) ms.length (mailsC ms)] w := H
  refine enter (n := 52) (R := fun r L' => r = .returned (.tuple #[vN 0, vN 1]) ∧ ∀ w', St S w0 L' w' → St S w0 (BoxR b A c ms many) w') [vP b 0, .agg (envOf X (A0, c0)).toArray, .agg (stC s).toArray] Try.func9 rfl rfl rfl H ?_ (fun e w' L' h H => ⟨h.1, h.2 w' H⟩)
  refine VC_seq ?_
  refine VC_region ?_
  refine l_boxA rfl rfl ?_
  intro b4
  refine l_boxA rfl rfl ?_
  intro b5
  refine vl_v (q_assign rfl) rfl ?_
  refine vl_v (q_assign rfl) rfl ?_
  refine vl_nil ?_
  refine (th_n ?_)
  refine VC_seq ?_
  refine VC_seq ?_
  refine VC_region ?_
  have hk : enK X = 1 := by unfold enK; rw [he]; rfl
  rw [hk] at hE
  refine vl_v (q_loads 1 Try.underlying36 rfl rfl rfl sz36 (by omega)) rfl ?_
  refine l_callG Try.func15 rfl rfl rfl (fun w1 H1 => hE w1 (hR _ w1 H1)) rfl ?_
  intro x12
  refine vl_v (q_move rfl) rfl ?_
  refine vl_v (q_ext rfl rfl) rfl ?_
  refine vl_v (q_ext rfl rfl) rfl ?_
  refine vl_v (q_assign rfl) rfl ?_
  refine vl_v (q_assign rfl) rfl ?_
  refine vl_nil ?_
  refine (th_n ?_)
  refine VC_seq ?_
  refine VC_region ?_
  refine vl_v (q_move rfl) rfl ?_
  refine vl_v (q_as (v := .bool true) (q_neq_n (q := 0) Try.underlying41 rfl rfl) (by simp)) rfl ?_
  refine vl_nil ?_
  refine (th_n ?_)
  refine VC_yes (rfl) ?_
  refine VC_seq ?_
  refine VC_region ?_
  refine vl_v (q_move rfl) rfl ?_
  refine vl_v (q_assign rfl) rfl ?_
  refine vl_v (q_assign rfl) rfl ?_
  refine vl_nil ?_
  refine (th_n ?_)
  refine VC_ret ?_
  refine (th_r ?_)
  refine ⟨_, res2 rfl rfl rfl, ?_⟩
  exact ⟨rfl, fun w' H' => St.pick H' (ks := [3, 4]) (by decide) rfl⟩
set_option maxHeartbeats 4000000 in
theorem put_full {S : List Nat} {w0 w : World} {b c many : Nat} {A : Option Addr} {ms : List (Mm × Pl)} (X : EnvD) (s : StD) (A0 : Option Addr) (c0 : Nat) (hc : X.cm.length = 32) (hp : X.pub.length = 32) (hs : s.ok) (hms : ∀ y ∈ ms, y.1.ok) (hR : ∀ L, Reads S w0 L A0 (bys X.body)) (H : St S w0 (BoxR b A c ms many) w) (he : enR X = true) (h8 : 8 ≤ ms.length) :
    Calls Try.prog 9 #[vP b 0, .agg (envOf X (A0, c0)).toArray, .agg (stC s).toArray] w fun r w' => r = .returned (.tuple #[vN 0, vN 8]) ∧ St S w0 (BoxR b A c ms many) w' := by
  have lX : (envOf X (A0, c0)).length = 69 := (envC_f hc hp).len
  have oX : ∀ u ∈ envOf X (A0, c0), u.oneCell' = true := envC_one rfl
  have ls := stC_length hs
  have os := stC_one (x := s)
  have hml := mailsC_length hms
  have hm1 := mailsC_one ms
  have hE : ∀ w, SlAt w A0 (bys X.body) → Calls Try.prog 15 #[.agg (envOf X (A0, c0)).toArray] w (fun e w' => ∃ x : Pl, e = .returned (.tuple #[.slice x.1 (enB X).length x.2, vN (enK X)]) ∧ St [] w [bodyR 5 (enB X) x] w') := fun w hs => henv_calls X A0 c0 hc hp w hs
  replace H : St S w0 [.blk b 57 [.slice A ms.length c, vN many], .row 52 138 (.slice A ms.length c) ms.length (mailsC ms)] w := H
  refine enter (n := 52) (R := fun r L' => r = .returned (.tuple #[vN 0, vN 8]) ∧ ∀ w', St S w0 L' w' → St S w0 (BoxR b A c ms many) w') [vP b 0, .agg (envOf X (A0, c0)).toArray, .agg (stC s).toArray] Try.func9 rfl rfl rfl H ?_ (fun e w' L' h H => ⟨h.1, h.2 w' H⟩)
  refine VC_seq ?_
  refine VC_region ?_
  refine l_boxA rfl rfl ?_
  intro b4
  refine l_boxA rfl rfl ?_
  intro b5
  refine vl_v (q_assign rfl) rfl ?_
  refine vl_v (q_assign rfl) rfl ?_
  refine vl_nil ?_
  refine (th_n ?_)
  refine VC_seq ?_
  refine VC_seq ?_
  refine VC_region ?_
  have hk : enK X = 0 := by unfold enK; rw [he]; rfl
  rw [hk] at hE
  refine vl_v (q_loads 1 Try.underlying36 rfl rfl rfl sz36 (by omega)) rfl ?_
  refine l_callG Try.func15 rfl rfl rfl (fun w1 H1 => hE w1 (hR _ w1 H1)) rfl ?_
  intro x12
  refine vl_v (q_move rfl) rfl ?_
  refine vl_v (q_ext rfl rfl) rfl ?_
  refine vl_v (q_ext rfl rfl) rfl ?_
  refine vl_v (q_assign rfl) rfl ?_
  refine vl_v (q_assign rfl) rfl ?_
  refine vl_nil ?_
  refine (th_n ?_)
  refine VC_seq ?_
  refine VC_region ?_
  refine vl_v (q_move rfl) rfl ?_
  refine vl_v (q_as (v := .bool false) (q_neq_n (q := 0) Try.underlying41 rfl rfl) (by simp)) rfl ?_
  refine vl_nil ?_
  refine (th_n ?_)
  refine VC_no (rfl) ?_
  refine VC_skip ?_
  refine (th_n ?_)
  refine VC_seq ?_
  refine VC_seq ?_
  refine VC_region ?_
  refine vl_v (q_move rfl) rfl ?_
  refine vl_v (q_nilck rfl) rfl ?_
  refine vl_v (q_fldA fo57_0 (by decide) rfl rfl) rfl ?_
  refine vl_v (q_load 3 Try.underlying46 rfl rfl rfl rfl) rfl ?_
  refine vl_v (q_lenS Try.underlying46 rfl) rfl ?_
  refine vl_v (q_true (q_geq_n (q := 8) Try.underlying3 rfl rfl) (by simp; omega)) rfl ?_
  refine vl_nil ?_
  refine (th_n ?_)
  refine VC_yes (rfl) ?_
  refine VC_seq ?_
  refine VC_region ?_
  refine vl_v (q_assign rfl) rfl ?_
  refine vl_v (q_assign rfl) rfl ?_
  refine vl_nil ?_
  refine (th_n ?_)
  refine VC_ret ?_
  refine (th_r ?_)
  refine ⟨_, res2 rfl rfl rfl, ?_⟩
  exact ⟨rfl, fun w' H' => St.pick H' (ks := [3, 4]) (by decide) rfl⟩
set_option maxHeartbeats 4000000 in
theorem put_ok {S : List Nat} {w0 w : World} {b c many : Nat} {A : Option Addr} {ms : List (Mm × Pl)} (X : EnvD) (s : StD) (A0 : Option Addr) (c0 : Nat) (hc : X.cm.length = 32) (hp : X.pub.length = 32) (hs : s.ok) (hms : ∀ y ∈ ms, y.1.ok) (hR : ∀ L, Reads S w0 L A0 (bys X.body)) (H : St S w0 (BoxR b A c ms many) w) (he : enR X = true) (h8 : ms.length < 8) (hm : many ≤ 1000) (hb : X.body.length ≤ 1000) :
    Calls Try.prog 9 #[vP b 0, .agg (envOf X (A0, c0)).toArray, .agg (stC s).toArray] w fun r w' => r = .returned (.tuple #[vN (many + 1), vN 0]) ∧ ∃ A' c' x, St S w0 (BoxR b A' c' (ms ++ [(⟨((many + 1 : Nat) : Int), X, s⟩, x)]) (many + 1) ++ [bodyR 5 X.body x]) w' := by
  have lX : (envOf X (A0, c0)).length = 69 := (envC_f hc hp).len
  have oX : ∀ u ∈ envOf X (A0, c0), u.oneCell' = true := envC_one rfl
  have ls := stC_length hs
  have os := stC_one (x := s)
  have hml := mailsC_length hms
  have hm1 := mailsC_one ms
  have hE : ∀ w, SlAt w A0 (bys X.body) → Calls Try.prog 15 #[.agg (envOf X (A0, c0)).toArray] w (fun e w' => ∃ x : Pl, e = .returned (.tuple #[.slice x.1 (enB X).length x.2, vN (enK X)]) ∧ St [] w [bodyR 5 (enB X) x] w') := fun w hs => henv_calls X A0 c0 hc hp w hs
  replace H : St S w0 [.blk b 57 [.slice A ms.length c, vN many], .row 52 138 (.slice A ms.length c) ms.length (mailsC ms)] w := H
  refine enter (n := 52) (R := fun r L' => r = .returned (.tuple #[vN (many + 1), vN 0]) ∧ ∀ w', St S w0 L' w' → ∃ A' c' x, St S w0 (BoxR b A' c' (ms ++ [(⟨((many + 1 : Nat) : Int), X, s⟩, x)]) (many + 1) ++ [bodyR 5 X.body x]) w') [vP b 0, .agg (envOf X (A0, c0)).toArray, .agg (stC s).toArray] Try.func9 rfl rfl rfl H ?_ (fun e w' L' h H => ⟨h.1, h.2 w' H⟩)
  refine VC_seq ?_
  refine VC_region ?_
  refine l_boxA rfl rfl ?_
  intro b4
  refine l_boxA rfl rfl ?_
  intro b5
  refine vl_v (q_assign rfl) rfl ?_
  refine vl_v (q_assign rfl) rfl ?_
  refine vl_nil ?_
  refine (th_n ?_)
  refine VC_seq ?_
  refine VC_seq ?_
  refine VC_region ?_
  have hk : enK X = 0 := by unfold enK; rw [he]; rfl
  rw [hk] at hE
  refine vl_v (q_loads 1 Try.underlying36 rfl rfl rfl sz36 (by omega)) rfl ?_
  refine l_callG Try.func15 rfl rfl rfl (fun w1 H1 => hE w1 (hR _ w1 H1)) rfl ?_
  intro x12
  refine vl_v (q_move rfl) rfl ?_
  refine vl_v (q_ext rfl rfl) rfl ?_
  refine vl_v (q_ext rfl rfl) rfl ?_
  refine vl_v (q_assign rfl) rfl ?_
  refine vl_v (q_assign rfl) rfl ?_
  refine vl_nil ?_
  refine (th_n ?_)
  refine VC_seq ?_
  refine VC_region ?_
  refine vl_v (q_move rfl) rfl ?_
  refine vl_v (q_as (v := .bool false) (q_neq_n (q := 0) Try.underlying41 rfl rfl) (by simp)) rfl ?_
  refine vl_nil ?_
  refine (th_n ?_)
  refine VC_no (rfl) ?_
  refine VC_skip ?_
  refine (th_n ?_)
  refine VC_seq ?_
  refine VC_seq ?_
  refine VC_region ?_
  refine vl_v (q_move rfl) rfl ?_
  refine vl_v (q_nilck rfl) rfl ?_
  refine vl_v (q_fldA fo57_0 (by decide) rfl rfl) rfl ?_
  refine vl_v (q_load 3 Try.underlying46 rfl rfl rfl rfl) rfl ?_
  refine vl_v (q_lenS Try.underlying46 rfl) rfl ?_
  refine vl_v (q_false (q_geq_n (q := 8) Try.underlying3 rfl rfl) (by simp; omega)) rfl ?_
  refine vl_nil ?_
  refine (th_n ?_)
  refine VC_no (rfl) ?_
  refine VC_skip ?_
  refine (th_n ?_)
  refine VC_seq ?_
  refine VC_region ?_
  refine vl_v (q_move rfl) rfl ?_
  refine vl_v (q_nilck rfl) rfl ?_
  refine vl_v (q_fldA fo57_1 (by decide) rfl rfl) rfl ?_
  refine vl_v (q_load 3 Try.underlying3 rfl rfl rfl rfl) rfl ?_
  refine vl_v (q_add_n (q := 1) rfl rfl (by omega)) rfl ?_
  refine vl_v (q_nilck rfl) rfl ?_
  refine vl_v (q_fldA fo57_1 (by decide) rfl rfl) rfl ?_
  refine l_store1 3 rfl rfl rfl sz3 rfl (by simp; done) ?_
  simp only [List.set_cons_zero, List.set_cons_succ]
  refine vl_nil ?_
  refine (th_n ?_)
  refine VC_seq ?_
  obtain ⟨m, hm0⟩ : ∃ m : Mm, m = ⟨((many + 1 : Nat) : Int), X, s⟩ := ⟨_, rfl⟩
  have hmo : m.ok := by subst hm0; exact ⟨hc, hp, hs⟩
  have hmX : m.X = X := by subst hm0; rfl
  have hmc : [vN (many + 1)] ++ (envOf X (A0, c0) ++ stC s) = mailC m (A0, c0) := by subst hm0; rfl
  have hlf : ∀ x : Pl, [mailC m x].flatten.length = 1 * 138 := fun x => by simp [mailC, mailV_length hmo]
  have hof : ∀ x : Pl, ∀ u ∈ [mailC m x].flatten, u.oneCell' = true := fun x => by rw [List.flatten_cons, List.flatten_nil, List.append_nil]; exact mailV_one rfl
  have hO := fun w hs => own_calls m hmo A0 c0 (by rw [hmX]; exact hb) w (by rw [hmX]; exact hs)
  refine VC_drawQ 15 5 [[], [], [1], [2], [3], [], [5], [6], [7], [], [], [8, 9, 10], [11], [12], [4, 13, 12], [0, 1, 2, 3, 4, 5, 6, 7, 8, 9, 10, 11, 12, 13, 14], [15, 0, 1, 2, 3, 4, 5, 6, 7, 8, 9, 10, 11, 12, 13, 14], [16, 14, 0, 1, 2, 3, 4, 5, 6, 7, 8, 9, 10, 11, 12, 13]] [[], [], [1], [1, 2], [1, 2, 3], [], [5], [5, 6], [5, 6, 7], [], [], [5, 6, 7, 8, 9, 10], [5, 6, 7, 8, 9, 10, 11], [5, 6, 7, 8, 9, 10, 11, 12], [1, 2, 3, 4, 5, 6, 7, 8, 9, 10, 11, 12, 13], [0, 1, 2, 3, 4, 5, 6, 7, 8, 9, 10, 11, 12, 13, 14], [0, 1, 2, 3, 4, 5, 6, 7, 8, 9, 10, 11, 12, 13, 14, 15], [0, 1, 2, 3, 4, 5, 6, 7, 8, 9, 10, 11, 12, 13, 14, 15, 16]] [([], [], [], [0, 1, 2, 3], []), ([], [], [], [0, 1, 2, 3, 4], []), ([1], [], [], [0, 1, 2, 3, 4], [1]), ([1, 2], [], [], [0, 1, 2, 3, 4], [1, 2]), ([1, 2, 3], [], [], [0, 1, 2, 3, 4], [1, 2, 3]), ([], [], [], [0, 1, 2, 3, 4], []), ([5], [], [], [0, 1, 2, 3, 4], [5]), ([5, 6], [], [], [0, 1, 2, 3, 4], [5, 6]), ([5, 6, 7], [], [], [0, 1, 2, 3, 4], [5, 6, 7]), ([], [], [], [0, 1, 2, 3, 4], []), ([], [], [], [0, 1, 2, 3, 4], []), ([5, 6, 7, 8, 9, 10], [], [], [0, 1, 2, 3, 4], [5, 6, 7, 8, 9, 10]), ([5, 6, 7, 8, 9, 10, 11], [], [], [0, 1, 2, 3, 4], [5, 6, 7, 8, 9, 10, 11]), ([5, 6, 7, 8, 9, 10, 11, 12], [], [], [0, 1, 2, 3, 4], [5, 6, 7, 8, 9, 10, 11, 12]), ([1, 2, 3, 4, 5, 6, 7, 8, 9, 10, 11, 12, 13], [4], [], [0, 1, 2, 3], [1, 2, 3, 4, 5, 6, 7, 8, 9, 10, 11, 12, 13])] [0, 1, 2, 3] [0, 1, 2, 3, 4, 5, 6, 7, 8, 9, 10, 11, 12, 13, 14] rfl rfl (by kernel_rfl) ?_
  refine qp_v (fun xs gs hx => q_move rfl) ?_
  refine qp_v (fun xs gs hx => q_move rfl) ?_
  refine qp_v (fun xs gs hx => q_nilck rfl) ?_
  refine qp_v (fun xs gs hx => q_fldA fo57_0 (by decide) rfl rfl) ?_
  refine qp_v (fun xs gs hx => q_load 3 Try.underlying46 rfl rfl rfl rfl) ?_
  refine qp_v (fun xs gs hx => q_move rfl) ?_
  refine qp_v (fun xs gs hx => q_nilck rfl) ?_
  refine qp_v (fun xs gs hx => q_fldA fo57_1 (by decide) rfl rfl) ?_
  refine qp_v (fun xs gs hx => q_load 3 Try.underlying3 rfl rfl rfl rfl) ?_
  refine qp_v (fun xs gs hx => q_loads 2 Try.underlying36 rfl rfl rfl sz36 (by omega)) ?_
  refine qp_v (fun xs gs hx => q_loads 1 Try.underlying38 rfl rfl rfl sz38 (by omega)) ?_
  refine qp_v (fun xs gs hx => q_buildS (tot := 138) (sizes := [1, 69, 68]) (c' := mailC m (A0, c0)) (by kernel_rfl) rfl rfl rfl rfl (by simp only [List.map_cons, List.map_nil, cellsL, Value.cells, lX, ls]; rfl) (by rw [← hmc]; simp only [flatV, cellsL, Value.cells, List.map_cons, List.map_nil, List.flatten_cons, List.flatten_nil, List.append_nil])) ?_
  refine qp_a (fun xs gs hx => q_call (s := .any (fun v => ∃ x, v = .agg (mailC m x).toArray) (nOwn m.X.body)) Try.func16 rfl rfl rfl (fun w1 H1 => (hO w1 (hR _ w1 H1)).mono fun e w' h => by obtain ⟨x, h1, h2⟩ := h; exact ⟨_, h1, ⟨x, rfl⟩, by show St [] w1 (nOwn m.X.body (.agg (mailC m x).toArray)) w'; rw [nOwn_mail hmo]; exact h2⟩)) ?_
  refine qp_a (Fv := fun xs gs u => ∃ b, u = .slice (some ⟨b, 0, none⟩) 1 1) (N := fun xs gs => nRow 52 138 1 [mailC m (plOf (xs 12))].flatten) (fun xs gs hx => ?_) ?_
  · obtain ⟨x, h9⟩ := hx.1 rfl
    simp only [h9, plOf_mail hmo]
    exact q_litG [mailC m x] Try.underlying46 in52 (by decide) (by decide) rfl rfl rfl (by intro v hv; rw [List.mem_singleton.1 hv]; exact mailV_length hmo)
  refine qp_append Try.underlying46 Try.underlying46 in52 rfl (by decide) (fun xs gs hx => rfl) (fun xs gs hx => rfl) (fun xs gs hx => (let ⟨b', e'⟩ := hx.2.1 rfl; ⟨_, _, congrArg some e', Reads.rowV 5 e' rfl⟩)) (fun xs gs hx => hlf _) (fun xs gs hx => hof _) (by omega) (by omega) ?_
  refine qp_end ?_
  intro xs gs hx
  obtain ⟨f43, ⟨b44, e44⟩, f45, _⟩ := hx
  simp only [selI, ownsA, List.contains_cons, List.contains_nil, Nat.reduceBEq, Nat.reduceAdd, Bool.or_false, Bool.or_true, Bool.false_or, Bool.true_or, mask, nRow, nBlk, nRowT, tupAt_0, tupAt_1, List.append_assoc, List.nil_append, List.append_nil, List.cons_append, List.singleton_append, e44]
  obtain ⟨A45, c45, e45, hc45, hm45⟩ := f45
  obtain ⟨x, e43⟩ := f43
  simp only [e45, e43, nOwn_mail hmo, plOf_mail hmo, List.flatten_cons, List.flatten_nil, List.append_nil, List.cons_append, List.nil_append]
  refine VL.keep (Sub.cons (s := 0) rfl (Sub.cons (s := 1) rfl (Sub.cons (s := 2) rfl (Sub.cons (s := 4) rfl (Sub.cons (s := 5) rfl (Sub.cons (s := 6) rfl (Sub.cons (s := 7) rfl (Sub.cons (s := 9) rfl (Sub.cons (s := 16) rfl (Sub.cons (s := 23) rfl (Sub.cons (s := 31) rfl (Sub.cons (s := 45) rfl (Sub.nil _))))))))))))) ?_
  refine vl_v (q_nilck rfl) rfl ?_
  refine vl_v (q_fldA fo57_0 (by decide) rfl rfl) rfl ?_
  refine l_store1 3 rfl rfl rfl sz46 rfl (by simp; done) ?_
  simp only [List.set_cons_zero, List.set_cons_succ]
  refine vl_nil ?_
  refine (qn_n (th_n ?_))
  refine VC_seq ?_
  refine VC_region ?_
  refine vl_v (q_move rfl) rfl ?_
  refine vl_v (q_nilck rfl) rfl ?_
  refine vl_v (q_fldA fo57_1 (by decide) rfl rfl) rfl ?_
  refine vl_v (q_load 3 Try.underlying3 rfl rfl rfl rfl) rfl ?_
  refine vl_v (q_assign rfl) rfl ?_
  refine vl_v (q_assign rfl) rfl ?_
  refine vl_nil ?_
  refine (th_n ?_)
  refine VC_ret ?_
  refine ⟨_, res2 rfl rfl rfl, ?_⟩
  refine ⟨rfl, fun w' H' => ⟨A45, c45, x, ?_⟩⟩
  have H2 := St.pick H' (ks := [3, 6, 4]) (by decide) rfl
  subst hm0
  unfold BoxR
  rw [show (ms ++ [((⟨((many + 1 : Nat) : Int), X, s⟩ : Mm), x)]).length = ms.length + 1 by simp, mailsC_append, mailsC_one1]
  exact H2
end Go.Proofs.Ytadaihpeionniaa
end
section
namespace Go.Proofs.Ytadaihpeionniaa
open Go Go.RowKit Go.PBYtadaihpeionniaa
set_option linter.unusedVariables false
set_option linter.unusedSimpArgs false
set_option maxRecDepth 10000
/-- the bodies of fresh mails, the last one first -/
def bods (ns : List (Mm × Pl)) : List Res := (ns.map fun y => bodyR 5 y.1.X.body y.2).reverse
theorem bods_snoc (ns : List (Mm × Pl)) (m : Mm) (x : Pl) : bods (ns ++ [(m, x)]) = bodyR 5 m.X.body x :: bods ns := by simp [bods]
def mids (ms : List (Mm × Pl)) : List Mm := ms.map (·.1)
theorem mids_snoc {ms : List (Mm × Pl)} {i : Nat} {y : Mm × Pl} (h : ms[i]? = some y) : (mids ms).take (i + 1) = (mids ms).take i ++ [y.1] := by
  rw [List.take_add_one, mids, List.getElem?_map, h]; rfl
set_option maxHeartbeats 4000000 in
theorem list_calls (w : World) (b c many : Nat) (A : Option Addr) (ms : List (Mm × Pl)) (hms : ∀ y ∈ ms, y.1.ok) (hb : ∀ y ∈ ms, y.1.X.body.length ≤ 1000) (hn : ms.length ≤ 8) (hS : SlAt w (some ⟨b, 0, none⟩) [.slice A ms.length c, vN many]) (hA : SlAt w A (mailsC ms)) (hB : ∀ y ∈ ms, SlAt w y.2.1 (bys y.1.X.body)) :
    Calls Try.prog 14 #[vP b 0] w fun e w' => ∃ z : Pl × List (Mm × Pl), e = .returned (.slice z.1.1 ms.length z.1.2) ∧ mids z.2 = mids ms ∧ St [] w ([.row 52 138 (.slice z.1.1 ms.length z.1.2) ms.length (mailsC z.2)] ++ bods z.2) w' := by
  have hml := mailsC_length hms
  refine enter (n := 22) (R := fun e L => ∃ z : Pl × List (Mm × Pl), e = .returned (.slice z.1.1 ms.length z.1.2) ∧ mids z.2 = mids ms ∧ ∀ w', St [] w L w' → St [] w ([.row 52 138 (.slice z.1.1 ms.length z.1.2) ms.length (mailsC z.2)] ++ bods z.2) w') [vP b 0] Try.func14 rfl rfl rfl (St.refl w) ?_ (fun e w' L' h H => by obtain ⟨z, h1, h2, h3⟩ := h; exact ⟨z, h1, h2, h3 w' H⟩)
  refine VC_seq ?_
  refine VC_region ?_
  refine vl_v (q_assign rfl) rfl ?_
  refine vl_nil ?_
  refine (th_n ?_)
  refine VC_seq ?_
  refine VC_region ?_
  refine vl_v (q_assign rfl) rfl ?_
  refine vl_nil ?_
  refine (th_n ?_)
  refine VC_seq ?_
  refine VC_seq ?_
  refine VC_region ?_
  refine vl_v (q_move rfl) rfl ?_
  refine vl_v (q_nilck rfl) rfl ?_
  refine vl_v (q_fldA fo57_0 (by decide) rfl rfl) rfl ?_
  refine vl_v (q_loadR (ad := ⟨b, 0, none⟩) (j := 0) Try.underlying46 rfl rfl (Reads.old hS) rfl) rfl ?_
  refine vl_v (q_lenS Try.underlying46 rfl) rfl ?_
  refine vl_v (q_move rfl) rfl ?_
  refine vl_nil ?_
  refine (th_n ?_)
  refine VC_block ?_
  refine VC_loop (ι := Nat × Pl × List (Mm × Pl)) (fun x => x.1 ≤ ms.length ∧ mids x.2.2 = (mids ms).take x.1) (fun x => [(0, vP b 0), (3, .slice x.2.1.1 x.1 x.2.1.2), (9, .slice A ms.length c), (10, vN ms.length), (11, vN x.1)]) (fun x => [.row 52 138 (.slice x.2.1.1 x.1 x.2.1.2) x.1 (mailsC x.2.2)] ++ bods x.2.2) (fun x => ms.length - x.1) (0, (none, 0), []) (⟨Nat.zero_le _, rfl⟩) (Sub.cons (s := 0) rfl (Sub.cons (s := 3) rfl (Sub.cons (s := 9) rfl (Sub.cons (s := 10) rfl (Sub.cons (s := 11) rfl (Sub.nil _)))))) (fun w H => H.addNil 52 138) ?_
  rintro ⟨i, ⟨B, k⟩, ns⟩ hp
  obtain ⟨hi, hp⟩ := hp
  dsimp only at hi hp
  dsimp only
  simp only [List.cons_append, List.nil_append]
  refine VC_seq ?_
  refine VC_region ?_
  refine vl_v (q_lss_n Try.underlying3 rfl rfl) rfl ?_
  refine vl_nil ?_
  refine (th_n ?_)
  refine VC_seq ?_
  refine VC_cond rfl (fun ht12 => ?_) (fun ht12 => ?_)
  · skip
    have ht12 := of_decide_eq_true ht12
    obtain ⟨y, hy⟩ : ∃ y, ms[i]? = some y := ⟨_, List.getElem?_eq_getElem ht12⟩
    have hym := List.mem_of_getElem? hy
    have hyo := hms y hym
    have hpt := mailsC_part hms hy
    have lyc : (mailC y.1 y.2).length = 138 := mailV_length hyo
    have oyc : ∀ u ∈ mailC y.1 y.2, u.oneCell' = true := mailV_one rfl
    have lxc : ∀ x : Pl, (mailC y.1 x).length = 138 := fun x => mailV_length hyo
    refine VC_skip ?_
    refine (th_n ?_)
    refine VC_seq ?_
    refine VC_block ?_
    refine VC_seq ?_
    refine VC_region ?_
    refine vl_v (q_idxRdN (m := i) Try.underlying46 sz52 rfl rfl ht12 (Reads.old hA) (by rw [hml]; omega)) rfl ?_
    refine vl_v (q_loadsRd Try.underlying52 rfl sz52 rfl (Reads.old hA) hpt lyc (by omega)) rfl ?_
    refine l_allocA zr52 rfl ?_
    intro b5
    refine l_storeA 0 rfl rfl rfl sz52 (by omega) (by with_reducible first | exact bys_one _ | exact u32s_one _ | exact u64s_one _ | exact i64s_one _ | exact n64s_one _ | assumption) (by simp only [zs, zr, zm, za, zb, zu, zw, zi, zt, zd, zc, zn, *] <;> first | done | omega) ?_
    simp only [List.set_cons_zero, List.set_cons_succ]
    refine vl_nil ?_
    refine (th_n ?_)
    refine VC_region ?_
    refine vl_v (q_move rfl) rfl ?_
    refine vl_v (q_loads 0 Try.underlying52 rfl rfl rfl sz52 (by omega)) rfl ?_
    refine l_callG Try.func16 rfl rfl rfl (fun w1 H1 => own_calls y.1 hyo y.2.1 y.2.2 (hb y hym) w1 (H1.sl0 (hB y hym))) rfl ?_
    intro x17
    refine l_litG [_] Try.underlying46 in52 (by decide) (by decide) rfl rfl rfl (by intro v hv; rw [List.mem_singleton] at hv; subst hv; first | omega | with_reducible assumption | (simp only [zb, zu, zw, zi, za]; omega) | (simp only [zs, zr, zm, za, zb, zu, zw, zi, zt, zd, zc, zn, *] <;> first | done | omega) | rfl) rfl ?_
    intro b18
    simp only [List.flatten_cons, List.flatten_nil, List.append_nil]
    have ox : ∀ u ∈ mailC y.1 x17, u.oneCell' = true := mailV_one rfl
    have lx := lxc x17
    refine l_append 3 rfl rfl rfl Try.underlying46 Try.underlying46 in52 rfl (by decide) (Reads.row 0 rfl) (by omega) (by with_reducible first | exact bys_one _ | exact u32s_one _ | exact u64s_one _ | exact i64s_one _ | exact n64s_one _ | assumption) (by omega) (by omega) rfl ?_
    intro A19 c19 hc19
    simp only [List.set_cons_zero, List.set_cons_succ, ← bys_append, ← u32s_append, ← u64s_append, ← i64s_append, List.nil_append, Nat.zero_add]
    refine vl_v (q_assign rfl) rfl ?_
    refine vl_nil ?_
    refine (bl_n (th_n ?_))
    refine VC_region ?_
    refine vl_v (q_add_n (q := 1) rfl rfl (by omega)) rfl ?_
    refine vl_v (q_move rfl) rfl ?_
    refine vl_nil ?_
    refine (th_n ?_)
    refine ⟨(i + 1, (A19, c19), ns ++ [(y.1, x17)]), ⟨by show i + 1 ≤ ms.length; omega, by show mids (ns ++ [(y.1, x17)]) = (mids ms).take (i + 1); rw [mids_snoc hy, ← hp]; simp [mids]⟩, by show ms.length - (i + 1) < ms.length - i; omega, (Sub.cons (s := 0) rfl (Sub.cons (s := 3) rfl (Sub.cons (s := 9) rfl (Sub.cons (s := 10) rfl (Sub.cons (s := 11) rfl (Sub.nil _)))))), fun w H => by rw [bods_snoc, mailsC_append, mailsC_one1]; exact St.pickR 4 H (ks := [3, 1]) (by decide) (by decide) rfl rfl⟩
  · skip
    have ht12 := of_decide_eq_false ht12
    obtain rfl : i = ms.length := by omega
    refine VC_exit ?_
    refine (th_x (th_x (bl_xs (th_n ?_))))
    refine VC_seq ?_
    refine VC_region ?_
    refine vl_v (q_move rfl) rfl ?_
    refine vl_v (q_assign rfl) rfl ?_
    refine vl_nil ?_
    refine (th_n ?_)
    refine VC_ret ?_
    refine ⟨_, res1 rfl rfl, ?_⟩
    exact ⟨((B, k), ns), rfl, by rw [hp]; exact List.take_of_length_le (by simp [mids]), fun w' H' => H'⟩
end Go.Proofs.Ytadaihpeionniaa
end
section
namespace Go.Proofs.Ytadaihpeionniaa
open Go Go.RowKit Go.PBYtadaihpeionniaa
set_option linter.unusedVariables false
set_option linter.unusedSimpArgs false
set_option maxRecDepth 10000
/-- j is where that number stands, or how many are kept -/
structure AtM (ms : List (Mm × Pl)) (id : Int) (j : Nat) : Prop where
  le : j ≤ ms.length
  no : ∀ i y, i < j → ms[i]? = some y → y.1.id ≠ id
  yes : ∀ y, ms[j]? = some y → y.1.id = id
set_option maxHeartbeats 4000000 in
theorem ack_low {S : List Nat} {w0 w : World} {b c many : Nat} {A : Option Addr} {ms : List (Mm × Pl)} (id : Int) (hw : (Lit.int .i64 id).wf = true) (hms : ∀ y ∈ ms, y.1.ok) (hn : ms.length ≤ 8) (H : St S w0 (BoxR b A c ms many) w) (h : id < 1) :
    Calls Try.prog 11 #[vP b 0, vI id] w fun r w' => r = .returned (vI 7) ∧ St S w0 (BoxR b A c ms many) w' := by
  have hml := mailsC_length hms
  have hm1 := mailsC_one ms
  replace H : St S w0 [.blk b 57 [.slice A ms.length c, vN many], .row 52 138 (.slice A ms.length c) ms.length (mailsC ms)] w := H
  refine enter (n := 47) (R := fun r L' => r = .returned (vI 7) ∧ ∀ w', St S w0 L' w' → St S w0 (BoxR b A c ms many) w') [vP b 0, vI id] Try.func11 rfl rfl rfl H ?_ (fun e w' L' h H => ⟨h.1, h.2 w' H⟩)
  refine VC_seq ?_
  refine VC_region ?_
  refine vl_v (q_assign rfl) rfl ?_
  refine vl_nil ?_
  refine (th_n ?_)
  refine VC_scope ?_
  refine VC_seq ?_
  refine VC_seq ?_
  refine VC_region ?_
  refine vl_v (q_move rfl) rfl ?_
  refine vl_v (q_as (v := .bool true) (q_lss_k (q := 1) Try.underlying3 rfl rfl) (by simp; omega)) rfl ?_
  refine vl_v (q_move rfl) rfl ?_
  refine vl_skip rfl rfl ?_
  refine vl_skip rfl rfl ?_
  refine vl_skip rfl rfl ?_
  refine vl_skip rfl rfl ?_
  refine vl_skip rfl rfl ?_
  refine vl_skip rfl rfl ?_
  refine vl_v (q_pickT rfl rfl) rfl ?_
  refine vl_nil ?_
  refine (th_n ?_)
  refine VC_yes (rfl) ?_
  refine VC_seq ?_
  refine VC_region ?_
  refine vl_v (q_assign rfl) rfl ?_
  refine vl_nil ?_
  refine (th_n ?_)
  refine VC_ret ?_
  refine (th_r (sc_r ?_))
  refine ⟨_, res1 rfl rfl, ?_⟩
  exact ⟨rfl, fun w' H' => H'⟩
set_option maxHeartbeats 4000000 in
theorem ack_high {S : List Nat} {w0 w : World} {b c many : Nat} {A : Option Addr} {ms : List (Mm × Pl)} (id : Int) (hw : (Lit.int .i64 id).wf = true) (hms : ∀ y ∈ ms, y.1.ok) (hn : ms.length ≤ 8) (H : St S w0 (BoxR b A c ms many) w) (h : 1 ≤ id) (h2 : (many : Int) < id) :
    Calls Try.prog 11 #[vP b 0, vI id] w fun r w' => r = .returned (vI 7) ∧ St S w0 (BoxR b A c ms many) w' := by
  have hml := mailsC_length hms
  have hm1 := mailsC_one ms
  replace H : St S w0 [.blk b 57 [.slice A ms.length c, vN many], .row 52 138 (.slice A ms.length c) ms.length (mailsC ms)] w := H
  refine enter (n := 47) (R := fun r L' => r = .returned (vI 7) ∧ ∀ w', St S w0 L' w' → St S w0 (BoxR b A c ms many) w') [vP b 0, vI id] Try.func11 rfl rfl rfl H ?_ (fun e w' L' h H => ⟨h.1, h.2 w' H⟩)
  refine VC_seq ?_
  refine VC_region ?_
  refine vl_v (q_assign rfl) rfl ?_
  refine vl_nil ?_
  refine (th_n ?_)
  refine VC_scope ?_
  refine VC_seq ?_
  refine VC_seq ?_
  refine VC_region ?_
  refine vl_v (q_move rfl) rfl ?_
  refine vl_v (q_as (v := .bool false) (q_lss_k (q := 1) Try.underlying3 rfl rfl) (by simp; omega)) rfl ?_
  refine vl_v (q_move rfl) rfl ?_
  refine vl_vg rfl (q_move rfl) rfl ?_
  refine vl_vg rfl (q_move rfl) rfl ?_
  refine vl_vg rfl (q_nilck rfl) rfl ?_
  refine vl_vg rfl (q_fldA fo57_1 (by decide) rfl rfl) rfl ?_
  refine vl_vg rfl (q_load 0 Try.underlying3 rfl rfl rfl rfl) rfl ?_
  refine vl_vg rfl (q_as (v := .bool true) (q_gtr_k Try.underlying3 rfl rfl) (by simp; omega)) rfl ?_
  refine vl_v (q_pickF rfl rfl) rfl ?_
  refine vl_nil ?_
  refine (th_n ?_)
  refine VC_yes (rfl) ?_
  refine VC_seq ?_
  refine VC_region ?_
  refine vl_v (q_assign rfl) rfl ?_
  refine vl_nil ?_
  refine (th_n ?_)
  refine VC_ret ?_
  refine (th_r (sc_r ?_))
  refine ⟨_, res1 rfl rfl, ?_⟩
  exact ⟨rfl, fun w' H' => H'⟩
set_option maxHeartbeats 4000000 in
theorem ack_old {S : List Nat} {w0 w : World} {b c many : Nat} {A : Option Addr} {ms : List (Mm × Pl)} (id : Int) (hw : (Lit.int .i64 id).wf = true) (hms : ∀ y ∈ ms, y.1.ok) (hn : ms.length ≤ 8) (H : St S w0 (BoxR b A c ms many) w) (h : 1 ≤ id) (h2 : id ≤ (many : Int)) (hno : ∀ y ∈ ms, y.1.id ≠ id) :
    Calls Try.prog 11 #[vP b 0, vI id] w fun r w' => r = .returned (vI 5) ∧ St S w0 (BoxR b A c ms many) w' := by
  have hml := mailsC_length hms
  have hm1 := mailsC_one ms
  replace H : St S w0 [.blk b 57 [.slice A ms.length c, vN many], .row 52 138 (.slice A ms.length c) ms.length (mailsC ms)] w := H
  refine enter (n := 47) (R := fun r L' => r = .returned (vI 5) ∧ ∀ w', St S w0 L' w' → St S w0 (BoxR b A c ms many) w') [vP b 0, vI id] Try.func11 rfl rfl rfl H ?_ (fun e w' L' h H => ⟨h.1, h.2 w' H⟩)
  refine VC_seq ?_
  refine VC_region ?_
  refine vl_v (q_assign rfl) rfl ?_
  refine vl_nil ?_
  refine (th_n ?_)
  refine VC_scope ?_
  refine VC_seq ?_
  refine VC_seq ?_
  refine VC_region ?_
  refine vl_v (q_move rfl) rfl ?_
  refine vl_v (q_as (v := .bool false) (q_lss_k (q := 1) Try.underlying3 rfl rfl) (by simp; omega)) rfl ?_
  refine vl_v (q_move rfl) rfl ?_
  refine vl_vg rfl (q_move rfl) rfl ?_
  refine vl_vg rfl (q_move rfl) rfl ?_
  refine vl_vg rfl (q_nilck rfl) rfl ?_
  refine vl_vg rfl (q_fldA fo57_1 (by decide) rfl rfl) rfl ?_
  refine vl_vg rfl (q_load 0 Try.underlying3 rfl rfl rfl rfl) rfl ?_
  refine vl_vg rfl (q_as (v := .bool false) (q_gtr_k Try.underlying3 rfl rfl) (by simp; omega)) rfl ?_
  refine vl_v (q_pickF rfl rfl) rfl ?_
  refine vl_nil ?_
  refine (th_n ?_)
  refine VC_no (rfl) ?_
  refine VC_skip ?_
  refine (th_n ?_)
  refine VC_seq ?_
  refine VC_region ?_
  refine vl_v (q_assign rfl) rfl ?_
  refine vl_nil ?_
  refine (th_n ?_)
  refine VC_seq ?_
  refine VC_label ?_
  refine (th_n ?_)
  refine VC_seq ?_
  refine VC_seq ?_
  refine VC_region ?_
  refine vl_v (q_move rfl) rfl ?_
  refine vl_v (q_nilck rfl) rfl ?_
  refine vl_v (q_fldA fo57_0 (by decide) rfl rfl) rfl ?_
  refine vl_v (q_load 0 Try.underlying46 rfl rfl rfl rfl) rfl ?_
  refine vl_v (q_lenS Try.underlying46 rfl) rfl ?_
  refine vl_v (q_move rfl) rfl ?_
  refine vl_nil ?_
  refine (th_n ?_)
  refine VC_block ?_
  refine VC_loop (ι := Nat) (fun i => i ≤ ms.length) (fun i => [(0, vP b 0), (1, vI id), (5, vI (-1)), (21, .slice A ms.length c), (22, vN ms.length), (23, vN i)]) (fun i => [.blk b 57 [.slice A ms.length c, vN many], .row 52 138 (.slice A ms.length c) ms.length (mailsC ms)]) (fun i => ms.length - i) 0 (by omega) (Sub.cons (s := 0) rfl (Sub.cons (s := 1) rfl (Sub.cons (s := 5) rfl (Sub.cons (s := 21) rfl (Sub.cons (s := 22) rfl (Sub.cons (s := 23) rfl (Sub.nil _))))))) (fun w H => H) ?_
  rintro i hp
  refine VC_seq ?_
  refine VC_region ?_
  refine vl_v (q_lss_n Try.underlying3 rfl rfl) rfl ?_
  refine vl_nil ?_
  refine (th_n ?_)
  refine VC_seq ?_
  refine VC_cond rfl (fun ht24 => ?_) (fun ht24 => ?_)
  · skip
    have ht24 := of_decide_eq_true ht24
    obtain ⟨y, hy⟩ : ∃ y, ms[i]? = some y := ⟨_, List.getElem?_eq_getElem ht24⟩
    have hyo := hms y (List.mem_of_getElem? hy)
    have hpt := mailsC_part hms hy
    have lyc : (mailC y.1 y.2).length = 138 := mailV_length hyo
    have oyc : ∀ u ∈ mailC y.1 y.2, u.oneCell' = true := mailV_one rfl
    refine VC_skip ?_
    refine (th_n ?_)
    refine VC_seq ?_
    refine VC_block ?_
    refine VC_seq ?_
    refine VC_region ?_
    refine vl_v (q_move rfl) rfl ?_
    refine vl_v (q_idxRdN (m := i) Try.underlying46 sz52 rfl rfl ht24 (Reads.row 1 rfl) (by rw [hml]; omega)) rfl ?_
    refine vl_v (q_loadsRd Try.underlying52 rfl sz52 rfl (Reads.row 1 rfl) hpt lyc (by omega)) rfl ?_
    refine l_allocA zr52 rfl ?_
    intro b7
    refine vl_v (q_assign rfl) rfl ?_
    refine l_storeA 0 rfl rfl rfl sz52 (by omega) (by with_reducible first | exact bys_one _ | exact u32s_one _ | exact u64s_one _ | exact i64s_one _ | exact n64s_one _ | assumption) (by simp only [zs, zr, zm, za, zb, zu, zw, zi, zt, zd, zc, zn, *] <;> first | done | omega) ?_
    simp only [List.set_cons_zero, List.set_cons_succ]
    refine vl_nil ?_
    refine (th_n ?_)
    refine VC_seq ?_
    refine VC_region ?_
    refine vl_v (q_fldA fo52_0 (by decide) rfl rfl) rfl ?_
    refine vl_v (q_load 0 Try.underlying3 rfl rfl rfl mailV_id) rfl ?_
    refine vl_v (q_move rfl) rfl ?_
    refine vl_v (q_eql_k Try.underlying3 rfl rfl) rfl ?_
    refine vl_nil ?_
    refine (th_n ?_)
    refine VC_cond rfl (fun ht31 => ?_) (fun ht31 => ?_)
    · skip
      exfalso; exact hno y (List.mem_of_getElem? hy) (of_decide_eq_true ht31)
    · skip
      have ht31 := of_decide_eq_false ht31
      refine VC_skip ?_
      refine (bl_n (th_n ?_))
      refine VC_region ?_
      refine vl_v (q_add_n (q := 1) rfl rfl (by omega)) rfl ?_
      refine vl_v (q_move rfl) rfl ?_
      refine vl_nil ?_
      refine (th_n ?_)
      refine ⟨i + 1, by omega, by omega, (Sub.cons (s := 0) rfl (Sub.cons (s := 1) rfl (Sub.cons (s := 5) rfl (Sub.cons (s := 21) rfl (Sub.cons (s := 22) rfl (Sub.cons (s := 23) rfl (Sub.nil _))))))), fun w H => St.pick H (ks := [1, 2]) (by decide) rfl⟩
  · skip
    refine VC_exit ?_
    refine (th_x (th_x (bl_xs (th_n ?_))))
    refine VC_seq ?_
    refine VC_seq ?_
    refine VC_region ?_
    refine vl_v (q_move rfl) rfl ?_
    refine vl_v (q_as (v := .bool true) (q_lss_k (q := 0) Try.underlying3 rfl rfl) (by simp)) rfl ?_
    refine vl_nil ?_
    refine (th_n ?_)
    refine VC_yes (rfl) ?_
    refine VC_seq ?_
    refine VC_region ?_
    refine vl_v (q_assign rfl) rfl ?_
    refine vl_nil ?_
    refine (th_n ?_)
    refine VC_ret ?_
    refine (th_r (sc_r ?_))
    refine ⟨_, res1 rfl rfl, ?_⟩
    exact ⟨rfl, fun w' H' => H'⟩
set_option maxHeartbeats 4000000 in
theorem ack_ok {S : List Nat} {w0 w : World} {b c many : Nat} {A : Option Addr} {ms : List (Mm × Pl)} (id : Int) (hw : (Lit.int .i64 id).wf = true) (hms : ∀ y ∈ ms, y.1.ok) (hn : ms.length ≤ 8) (H : St S w0 (BoxR b A c ms many) w) (j : Nat) (h : 1 ≤ id) (h2 : id ≤ (many : Int)) (hj : AtM ms id j) (hjl : j < ms.length) :
    Calls Try.prog 11 #[vP b 0, vI id] w fun r w' => r = .returned (vI 0) ∧ ∃ A' c', St S w0 (BoxR b A' c' (ms.eraseIdx j) many) w' := by
  have hml := mailsC_length hms
  have hm1 := mailsC_one ms
  replace H : St S w0 [.blk b 57 [.slice A ms.length c, vN many], .row 52 138 (.slice A ms.length c) ms.length (mailsC ms)] w := H
  refine enter (n := 47) (R := fun r L' => r = .returned (vI 0) ∧ ∀ w', St S w0 L' w' → ∃ A' c', St S w0 (BoxR b A' c' (ms.eraseIdx j) many) w') [vP b 0, vI id] Try.func11 rfl rfl rfl H ?_ (fun e w' L' h H => ⟨h.1, h.2 w' H⟩)
  refine VC_seq ?_
  refine VC_region ?_
  have hme := mails_erase hjl hms
  refine vl_v (q_assign rfl) rfl ?_
  refine vl_nil ?_
  refine (th_n ?_)
  refine VC_scope ?_
  refine VC_seq ?_
  refine VC_seq ?_
  refine VC_region ?_
  refine vl_v (q_move rfl) rfl ?_
  refine vl_v (q_as (v := .bool false) (q_lss_k (q := 1) Try.underlying3 rfl rfl) (by simp; omega)) rfl ?_
  refine vl_v (q_move rfl) rfl ?_
  refine vl_vg rfl (q_move rfl) rfl ?_
  refine vl_vg rfl (q_move rfl) rfl ?_
  refine vl_vg rfl (q_nilck rfl) rfl ?_
  refine vl_vg rfl (q_fldA fo57_1 (by decide) rfl rfl) rfl ?_
  refine vl_vg rfl (q_load 0 Try.underlying3 rfl rfl rfl rfl) rfl ?_
  refine vl_vg rfl (q_as (v := .bool false) (q_gtr_k Try.underlying3 rfl rfl) (by simp; omega)) rfl ?_
  refine vl_v (q_pickF rfl rfl) rfl ?_
  refine vl_nil ?_
  refine (th_n ?_)
  refine VC_no (rfl) ?_
  refine VC_skip ?_
  refine (th_n ?_)
  refine VC_seq ?_
  refine VC_region ?_
  refine vl_v (q_assign rfl) rfl ?_
  refine vl_nil ?_
  refine (th_n ?_)
  refine VC_seq ?_
  refine VC_label ?_
  refine (th_n ?_)
  refine VC_seq ?_
  refine VC_seq ?_
  refine VC_region ?_
  refine vl_v (q_move rfl) rfl ?_
  refine vl_v (q_nilck rfl) rfl ?_
  refine vl_v (q_fldA fo57_0 (by decide) rfl rfl) rfl ?_
  refine vl_v (q_load 0 Try.underlying46 rfl rfl rfl rfl) rfl ?_
  refine vl_v (q_lenS Try.underlying46 rfl) rfl ?_
  refine vl_v (q_move rfl) rfl ?_
  refine vl_nil ?_
  refine (th_n ?_)
  refine VC_block ?_
  refine VC_loop (ι := Nat) (fun i => i ≤ j) (fun i => [(0, vP b 0), (1, vI id), (5, vI (-1)), (21, .slice A ms.length c), (22, vN ms.length), (23, vN i)]) (fun i => [.blk b 57 [.slice A ms.length c, vN many], .row 52 138 (.slice A ms.length c) ms.length (mailsC ms)]) (fun i => ms.length - i) 0 (by omega) (Sub.cons (s := 0) rfl (Sub.cons (s := 1) rfl (Sub.cons (s := 5) rfl (Sub.cons (s := 21) rfl (Sub.cons (s := 22) rfl (Sub.cons (s := 23) rfl (Sub.nil _))))))) (fun w H => H) ?_
  rintro i hp
  refine VC_seq ?_
  refine VC_region ?_
  refine vl_v (q_lss_n Try.underlying3 rfl rfl) rfl ?_
  refine vl_nil ?_
  refine (th_n ?_)
  refine VC_seq ?_
  refine VC_cond rfl (fun ht24 => ?_) (fun ht24 => ?_)
  · skip
    have ht24 := of_decide_eq_true ht24
    obtain ⟨y, hy⟩ : ∃ y, ms[i]? = some y := ⟨_, List.getElem?_eq_getElem ht24⟩
    have hyo := hms y (List.mem_of_getElem? hy)
    have hpt := mailsC_part hms hy
    have lyc : (mailC y.1 y.2).length = 138 := mailV_length hyo
    have oyc : ∀ u ∈ mailC y.1 y.2, u.oneCell' = true := mailV_one rfl
    refine VC_skip ?_
    refine (th_n ?_)
    refine VC_seq ?_
    refine VC_block ?_
    refine VC_seq ?_
    refine VC_region ?_
    refine vl_v (q_move rfl) rfl ?_
    refine vl_v (q_idxRdN (m := i) Try.underlying46 sz52 rfl rfl ht24 (Reads.row 1 rfl) (by rw [hml]; omega)) rfl ?_
    refine vl_v (q_loadsRd Try.underlying52 rfl sz52 rfl (Reads.row 1 rfl) hpt lyc (by omega)) rfl ?_
    refine l_allocA zr52 rfl ?_
    intro b7
    refine vl_v (q_assign rfl) rfl ?_
    refine l_storeA 0 rfl rfl rfl sz52 (by omega) (by with_reducible first | exact bys_one _ | exact u32s_one _ | exact u64s_one _ | exact i64s_one _ | exact n64s_one _ | assumption) (by simp only [zs, zr, zm, za, zb, zu, zw, zi, zt, zd, zc, zn, *] <;> first | done | omega) ?_
    simp only [List.set_cons_zero, List.set_cons_succ]
    refine vl_nil ?_
    refine (th_n ?_)
    refine VC_seq ?_
    refine VC_region ?_
    refine vl_v (q_fldA fo52_0 (by decide) rfl rfl) rfl ?_
    refine vl_v (q_load 0 Try.underlying3 rfl rfl rfl mailV_id) rfl ?_
    refine vl_v (q_move rfl) rfl ?_
    refine vl_v (q_eql_k Try.underlying3 rfl rfl) rfl ?_
    refine vl_nil ?_
    refine (th_n ?_)
    refine VC_cond rfl (fun ht31 => ?_) (fun ht31 => ?_)
    · skip
      have ht31 := of_decide_eq_true ht31
      obtain rfl : i = j := by
        by_cases h9 : i < j
        · exact absurd ht31 (hj.no i y h9 hy)
        · omega
      refine VC_seq ?_
      refine VC_region ?_
      refine vl_v (q_move rfl) rfl ?_
      refine vl_v (q_assign rfl) rfl ?_
      refine vl_nil ?_
      refine (th_n ?_)
      refine VC_exit ?_
      refine (bl_xo rfl (th_x (th_x (bl_xs (th_n ?_)))))
      refine VC_seq ?_
      refine VC_seq ?_
      refine VC_region ?_
      refine vl_v (q_move rfl) rfl ?_
      refine vl_v (q_as (v := .bool false) (q_lss_k (q := 0) Try.underlying3 rfl rfl) (by simp)) rfl ?_
      refine vl_nil ?_
      refine (th_n ?_)
      refine VC_no (rfl) ?_
      refine VC_skip ?_
      refine (th_n ?_)
      refine VC_seq ?_
      refine VC_region ?_
      refine vl_v (q_move rfl) rfl ?_
      refine vl_v (q_move rfl) rfl ?_
      refine vl_v (q_nilck rfl) rfl ?_
      refine vl_v (q_fldA fo57_0 (by decide) rfl rfl) rfl ?_
      refine vl_v (q_load 1 Try.underlying46 rfl rfl rfl rfl) rfl ?_
      refine vl_v (q_move rfl) rfl ?_
      refine vl_v (q_move rfl) rfl ?_
      refine vl_v (q_add_n (q := 1) rfl rfl (by omega)) rfl ?_
      refine l_call (F := fun v L' => ∃ A' c', v = .slice A' (ms.length - 1) c' ∧ L' = [.blk b7 52 (mailC y.1 y.2), .blk b 57 [.slice A ms.length c, vN many], .row 52 138 (.slice A' (ms.length - 1) c') (ms.length - 1) ((mailsC ms).take (i * 138) ++ (mailsC ms).drop ((i + 1) * 138))]) Try.func18 rfl rfl rfl (fun w1 H1 => (delete_calls (q := 2) i H1 rfl hjl hm1).mono fun e w' h => ?_) rfl ?_
      · obtain ⟨v', h1, h9⟩ := h
        obtain ⟨A', c', rfl, _⟩ := Row.slice (h9.get (k := 2) rfl)
        exact ⟨_, _, h1, ⟨A', c', rfl, rfl⟩, h9⟩
      rintro v L' ⟨A', c', rfl, rfl⟩
      refine vl_v (q_nilck rfl) rfl ?_
      refine vl_v (q_fldA fo57_0 (by decide) rfl rfl) rfl ?_
      refine l_store1 1 rfl rfl rfl sz46 rfl (by simp; done) ?_
      simp only [List.set_cons_zero, List.set_cons_succ]
      refine vl_nil ?_
      refine (th_n ?_)
      refine VC_seq ?_
      refine VC_region ?_
      refine vl_v (q_assign rfl) rfl ?_
      refine vl_nil ?_
      refine (th_n ?_)
      refine VC_ret ?_
      refine (sc_r ?_)
      refine ⟨_, res1 rfl rfl, ?_⟩
      refine ⟨rfl, fun w' H' => ⟨A', c', ?_⟩⟩
      have H2 := St.pick H' (ks := [1, 2]) (by decide) rfl
      unfold BoxR
      rw [show (ms.eraseIdx i).length = ms.length - 1 by rw [List.length_eraseIdx, if_pos hjl], hme]
      exact H2
    · skip
      have ht31 := of_decide_eq_false ht31
      have hlt : i < j := by
        by_cases h9 : i < j
        · exact h9
        · obtain rfl : i = j := by omega
          exact absurd (hj.yes y hy) ht31
      refine VC_skip ?_
      refine (bl_n (th_n ?_))
      refine VC_region ?_
      refine vl_v (q_add_n (q := 1) rfl rfl (by omega)) rfl ?_
      refine vl_v (q_move rfl) rfl ?_
      refine vl_nil ?_
      refine (th_n ?_)
      refine ⟨i + 1, by omega, by omega, (Sub.cons (s := 0) rfl (Sub.cons (s := 1) rfl (Sub.cons (s := 5) rfl (Sub.cons (s := 21) rfl (Sub.cons (s := 22) rfl (Sub.cons (s := 23) rfl (Sub.nil _))))))), fun w H => St.pick H (ks := [1, 2]) (by decide) rfl⟩
  · skip
    have ht24 := of_decide_eq_false ht24
    exfalso; omega
end Go.Proofs.Ytadaihpeionniaa
end
section
namespace Go.Proofs.Ytadaihpeionniaa
open Go Go.RowKit Go.PBYtadaihpeionniaa
set_option linter.unusedVariables false
set_option linter.unusedSimpArgs false
set_option maxRecDepth 10000
def DocB (br : Nat) (B : Option Addr) (k : Nat) (r : Res) (ms : List (Mm × Pl)) (many : Nat) : List Res := [.blk br 29 [.slice B ms.length k, vN many], r]
theorem envC_set {f t p q : Int} {cm pub : List UInt8} {sl : Value} (hc : cm.length = 32) (hp : pub.length = 32) (v : Value) : (envC f t cm pub p q sl).set 68 v = envC f t cm pub p q v := by
  have h1 : (bys cm).length = 32 := by rw [bys_length, hc]
  have h2 := headC_length hp p q
  show vI f :: vI t :: (bys cm ++ (headC pub p q ++ [sl])).set 66 v = _
  rw [List.set_append_right _ _ (by omega), List.set_append_right _ _ (by omega), h1, h2]
  rfl
set_option maxHeartbeats 4000000 in
theorem rput_bad {S : List Nat} {w0 w : World} {br k many : Nat} {B : Option Addr} {r : Res} {ms : List (Mm × Pl)} (X : EnvD) (s : StD) (A0 : Option Addr) (c0 : Nat) (hc : X.cm.length = 32) (hp : X.pub.length = 32) (hs : s.ok) (hms : ∀ y ∈ ms, y.1.ok) (hr : ∀ w'', r.ok w'' → SlAt w'' B (mailsC ms)) (hk : ms.length ≤ k) (hR : ∀ L, Reads S w0 L A0 (bys X.body)) (H : St S w0 (DocB br B k r ms many) w) (he : enR X = false) :
    Calls Try.prog 10 #[vP br 0, .agg (envOf X (A0, c0)).toArray, .agg (stC s).toArray] w fun e w' => e = .returned (.tuple #[vN 0, vN 1]) ∧ St S w0 (DocB br B k r ms many) w' := by
  have lX : (envOf X (A0, c0)).length = 69 := (envC_f hc hp).len
  have oX : ∀ u ∈ envOf X (A0, c0), u.oneCell' = true := envC_one rfl
  have gX : (envOf X (A0, c0))[68]? = some (.slice A0 X.body.length c0) := (envC_f hc hp).g4
  have ls := stC_length hs
  have os := stC_one (x := s)
  have hml := mailsC_length hms
  have hm1 := mailsC_one ms
  have hE : ∀ w, Calls Try.prog 17 #[.agg (envOf X (A0, c0)).toArray] w fun e w' => e = .returned (.bool (enR X)) ∧ Kept [] w w' := fun w => rrightE_calls X.f X.t X.cm X.pub X.p X.q X.body.length c0 A0 hc hp w
  replace H : St S w0 [.blk br 29 [.slice B ms.length k, vN many], r] w := H
  refine enter (n := 51) (R := fun e L' => e = .returned (.tuple #[vN 0, vN 1]) ∧ ∀ w', St S w0 L' w' → St S w0 (DocB br B k r ms many) w') [vP br 0, .agg (envOf X (A0, c0)).toArray, .agg (stC s).toArray] Try.func10 rfl rfl rfl H ?_ (fun e w' L' h H => ⟨h.1, h.2 w' H⟩)
  refine VC_seq ?_
  refine VC_region ?_
  refine l_boxA rfl rfl ?_
  intro b4
  refine l_boxA rfl rfl ?_
  intro b5
  refine vl_v (q_assign rfl) rfl ?_
  refine vl_v (q_assign rfl) rfl ?_
  refine vl_nil ?_
  refine (th_n ?_)
  refine VC_seq ?_
  refine VC_seq ?_
  refine VC_region ?_
  refine vl_v (q_loads 1 Try.underlying36 rfl rfl rfl sz36 (by omega)) rfl ?_
  refine vl_v (q_as (v := .bool false) (q_callV Try.func17 rfl rfl rfl (fun w1 H1 => hE w1)) (by rw [he])) rfl ?_
  refine vl_v (q_not rfl) rfl ?_
  refine vl_nil ?_
  refine (th_n ?_)
  refine VC_yes (rfl) ?_
  refine VC_seq ?_
  refine VC_region ?_
  refine vl_v (q_assign rfl) rfl ?_
  refine vl_v (q_assign rfl) rfl ?_
  refine vl_nil ?_
  refine (th_n ?_)
  refine VC_ret ?_
  refine (th_r ?_)
  refine ⟨_, res2 rfl rfl rfl, ?_⟩
  exact ⟨rfl, fun w' H' => St.pick H' (ks := [2, 3]) (by decide) rfl⟩
set_option maxHeartbeats 4000000 in
theorem rput_full {S : List Nat} {w0 w : World} {br k many : Nat} {B : Option Addr} {r : Res} {ms : List (Mm × Pl)} (X : EnvD) (s : StD) (A0 : Option Addr) (c0 : Nat) (hc : X.cm.length = 32) (hp : X.pub.length = 32) (hs : s.ok) (hms : ∀ y ∈ ms, y.1.ok) (hr : ∀ w'', r.ok w'' → SlAt w'' B (mailsC ms)) (hk : ms.length ≤ k) (hR : ∀ L, Reads S w0 L A0 (bys X.body)) (H : St S w0 (DocB br B k r ms many) w) (he : enR X = true) (h8 : 8 ≤ ms.length) :
    Calls Try.prog 10 #[vP br 0, .agg (envOf X (A0, c0)).toArray, .agg (stC s).toArray] w fun e w' => e = .returned (.tuple #[vN 0, vN 8]) ∧ St S w0 (DocB br B k r ms many) w' := by
  have lX : (envOf X (A0, c0)).length = 69 := (envC_f hc hp).len
  have oX : ∀ u ∈ envOf X (A0, c0), u.oneCell' = true := envC_one rfl
  have gX : (envOf X (A0, c0))[68]? = some (.slice A0 X.body.length c0) := (envC_f hc hp).g4
  have ls := stC_length hs
  have os := stC_one (x := s)
  have hml := mailsC_length hms
  have hm1 := mailsC_one ms
  have hE : ∀ w, Calls Try.prog 17 #[.agg (envOf X (A0, c0)).toArray] w fun e w' => e = .returned (.bool (enR X)) ∧ Kept [] w w' := fun w => rrightE_calls X.f X.t X.cm X.pub X.p X.q X.body.length c0 A0 hc hp w
  replace H : St S w0 [.blk br 29 [.slice B ms.length k, vN many], r] w := H
  refine enter (n := 51) (R := fun e L' => e = .returned (.tuple #[vN 0, vN 8]) ∧ ∀ w', St S w0 L' w' → St S w0 (DocB br B k r ms many) w') [vP br 0, .agg (envOf X (A0, c0)).toArray, .agg (stC s).toArray] Try.func10 rfl rfl rfl H ?_ (fun e w' L' h H => ⟨h.1, h.2 w' H⟩)
  refine VC_seq ?_
  refine VC_region ?_
  refine l_boxA rfl rfl ?_
  intro b4
  refine l_boxA rfl rfl ?_
  intro b5
  refine vl_v (q_assign rfl) rfl ?_
  refine vl_v (q_assign rfl) rfl ?_
  refine vl_nil ?_
  refine (th_n ?_)
  refine VC_seq ?_
  refine VC_seq ?_
  refine VC_region ?_
  refine vl_v (q_loads 1 Try.underlying36 rfl rfl rfl sz36 (by omega)) rfl ?_
  refine vl_v (q_as (v := .bool true) (q_callV Try.func17 rfl rfl rfl (fun w1 H1 => hE w1)) (by rw [he])) rfl ?_
  refine vl_v (q_not rfl) rfl ?_
  refine vl_nil ?_
  refine (th_n ?_)
  refine VC_no (rfl) ?_
  refine VC_skip ?_
  refine (th_n ?_)
  refine VC_seq ?_
  refine VC_seq ?_
  refine VC_region ?_
  refine vl_v (q_move rfl) rfl ?_
  refine vl_v (q_nilck rfl) rfl ?_
  refine vl_v (q_fldA fo29_0 (by decide) rfl rfl) rfl ?_
  refine vl_v (q_load 2 Try.underlying27 rfl rfl rfl rfl) rfl ?_
  refine vl_v (q_lenS Try.underlying27 rfl) rfl ?_
  refine vl_v (q_true (q_geq_n (q := 8) Try.underlying3 rfl rfl) (by simp; omega)) rfl ?_
  refine vl_nil ?_
  refine (th_n ?_)
  refine VC_yes (rfl) ?_
  refine VC_seq ?_
  refine VC_region ?_
  refine vl_v (q_assign rfl) rfl ?_
  refine vl_v (q_assign rfl) rfl ?_
  refine vl_nil ?_
  refine (th_n ?_)
  refine VC_ret ?_
  refine (th_r ?_)
  refine ⟨_, res2 rfl rfl rfl, ?_⟩
  exact ⟨rfl, fun w' H' => St.pick H' (ks := [2, 3]) (by decide) rfl⟩
set_option maxHeartbeats 4000000 in
theorem rput_ok {S : List Nat} {w0 w : World} {br k many : Nat} {B : Option Addr} {r : Res} {ms : List (Mm × Pl)} (X : EnvD) (s : StD) (A0 : Option Addr) (c0 : Nat) (hc : X.cm.length = 32) (hp : X.pub.length = 32) (hs : s.ok) (hms : ∀ y ∈ ms, y.1.ok) (hr : ∀ w'', r.ok w'' → SlAt w'' B (mailsC ms)) (hk : ms.length ≤ k) (hR : ∀ L, Reads S w0 L A0 (bys X.body)) (H : St S w0 (DocB br B k r ms many) w) (he : enR X = true) (h8 : ms.length < 8) (hm : many ≤ 1000) (hb : X.body.length ≤ 1000) :
    Calls Try.prog 10 #[vP br 0, .agg (envOf X (A0, c0)).toArray, .agg (stC s).toArray] w fun e w' => e = .returned (.tuple #[vN (many + 1), vN 0]) ∧ ∃ B' k' r' x, (∀ w'', r'.ok w'' → SlAt w'' B' (mailsC (ms ++ [((⟨((many + 1 : Nat) : Int), X, s⟩ : Mm), x)]))) ∧ (ms ++ [((⟨((many + 1 : Nat) : Int), X, s⟩ : Mm), x)]).length ≤ k' ∧ St S w0 (DocB br B' k' r' (ms ++ [((⟨((many + 1 : Nat) : Int), X, s⟩ : Mm), x)]) (many + 1) ++ [bodyR 5 X.body x]) w' := by
  have lX : (envOf X (A0, c0)).length = 69 := (envC_f hc hp).len
  have oX : ∀ u ∈ envOf X (A0, c0), u.oneCell' = true := envC_one rfl
  have gX : (envOf X (A0, c0))[68]? = some (.slice A0 X.body.length c0) := (envC_f hc hp).g4
  have ls := stC_length hs
  have os := stC_one (x := s)
  have hml := mailsC_length hms
  have hm1 := mailsC_one ms
  have hE : ∀ w, Calls Try.prog 17 #[.agg (envOf X (A0, c0)).toArray] w fun e w' => e = .returned (.bool (enR X)) ∧ Kept [] w w' := fun w => rrightE_calls X.f X.t X.cm X.pub X.p X.q X.body.length c0 A0 hc hp w
  replace H : St S w0 [.blk br 29 [.slice B ms.length k, vN many], r] w := H
  refine enter (n := 51) (R := fun e L' => e = .returned (.tuple #[vN (many + 1), vN 0]) ∧ ∀ w', St S w0 L' w' → ∃ B' k' r' x, (∀ w'', r'.ok w'' → SlAt w'' B' (mailsC (ms ++ [((⟨((many + 1 : Nat) : Int), X, s⟩ : Mm), x)]))) ∧ (ms ++ [((⟨((many + 1 : Nat) : Int), X, s⟩ : Mm), x)]).length ≤ k' ∧ St S w0 (DocB br B' k' r' (ms ++ [((⟨((many + 1 : Nat) : Int), X, s⟩ : Mm), x)]) (many + 1) ++ [bodyR 5 X.body x]) w') [vP br 0, .agg (envOf X (A0, c0)).toArray, .agg (stC s).toArray] Try.func10 rfl rfl rfl H ?_ (fun e w' L' h H => ⟨h.1, h.2 w' H⟩)
  refine VC_seq ?_
  refine VC_region ?_
  refine l_boxA rfl rfl ?_
  intro b4
  refine l_boxA rfl rfl ?_
  intro b5
  refine vl_v (q_assign rfl) rfl ?_
  refine vl_v (q_assign rfl) rfl ?_
  refine vl_nil ?_
  refine (th_n ?_)
  refine VC_seq ?_
  refine VC_seq ?_
  refine VC_region ?_
  refine vl_v (q_loads 1 Try.underlying36 rfl rfl rfl sz36 (by omega)) rfl ?_
  refine vl_v (q_as (v := .bool true) (q_callV Try.func17 rfl rfl rfl (fun w1 H1 => hE w1)) (by rw [he])) rfl ?_
  refine vl_v (q_not rfl) rfl ?_
  refine vl_nil ?_
  refine (th_n ?_)
  refine VC_no (rfl) ?_
  refine VC_skip ?_
  refine (th_n ?_)
  refine VC_seq ?_
  refine VC_seq ?_
  refine VC_region ?_
  refine vl_v (q_move rfl) rfl ?_
  refine vl_v (q_nilck rfl) rfl ?_
  refine vl_v (q_fldA fo29_0 (by decide) rfl rfl) rfl ?_
  refine vl_v (q_load 2 Try.underlying27 rfl rfl rfl rfl) rfl ?_
  refine vl_v (q_lenS Try.underlying27 rfl) rfl ?_
  refine vl_v (q_false (q_geq_n (q := 8) Try.underlying3 rfl rfl) (by simp; omega)) rfl ?_
  refine vl_nil ?_
  refine (th_n ?_)
  refine VC_no (rfl) ?_
  refine VC_skip ?_
  refine (th_n ?_)
  refine VC_seq ?_
  refine VC_region ?_
  refine vl_v (q_move rfl) rfl ?_
  refine vl_v (q_nilck rfl) rfl ?_
  refine vl_v (q_fldA fo29_1 (by decide) rfl rfl) rfl ?_
  refine vl_v (q_load 2 Try.underlying3 rfl rfl rfl rfl) rfl ?_
  refine vl_v (q_add_n (q := 1) rfl rfl (by omega)) rfl ?_
  refine vl_v (q_nilck rfl) rfl ?_
  refine vl_v (q_fldA fo29_1 (by decide) rfl rfl) rfl ?_
  refine l_store1 2 rfl rfl rfl sz3 rfl (by simp; done) ?_
  simp only [List.set_cons_zero, List.set_cons_succ]
  refine vl_nil ?_
  refine (th_n ?_)
  refine VC_seq ?_
  refine VC_region ?_
  refine l_litA (cs := bys []) Try.underlying34 in5 (by decide) rfl rfl rfl rfl (by exact one_all rfl) rfl rfl ?_
  intro b24
  refine vl_v (q_fldA fo36_4 (by decide) rfl rfl) rfl ?_
  refine vl_v (q_load 2 Try.underlying34 rfl rfl rfl gX) rfl ?_
  refine l_append 0 rfl rfl rfl Try.underlying34 Try.underlying34 in5 rfl (by decide) (hR _) (by simp only [zb, zu, zw, zi, za]; omega) (by with_reducible first | exact bys_one _ | exact u32s_one _ | exact u64s_one _ | exact i64s_one _ | exact n64s_one _ | assumption) (by omega) (by omega) rfl ?_
  intro A27 c27 hc27
  simp only [List.set_cons_zero, List.set_cons_succ, ← bys_append, ← u32s_append, ← u64s_append, ← i64s_append, List.nil_append, Nat.zero_add]
  refine vl_v (q_fldA fo36_4 (by decide) rfl rfl) rfl ?_
  refine l_store1 2 rfl rfl rfl sz34 rfl (by omega) ?_
  simp only [List.set_cons_zero, List.set_cons_succ]
  refine vl_nil ?_
  refine (th_n ?_)
  refine VC_seq ?_
  have e68 : (envOf X (A0, c0)).set (0 + 68) (.slice A27 X.body.length c27) = envOf X (A27, c27) := envC_set hc hp _
  rw [e68]
  have lX2 : (envOf X (A27, c27)).length = 69 := (envC_f hc hp).len
  obtain ⟨m, hm0⟩ : ∃ m : Mm, m = ⟨((many + 1 : Nat) : Int), X, s⟩ := ⟨_, rfl⟩
  have hmo : m.ok := by subst hm0; exact ⟨hc, hp, hs⟩
  have hmc : [vN (many + 1)] ++ (envOf X (A27, c27) ++ stC s) = mailC m (A27, c27) := by subst hm0; rfl
  have lmc : (mailC m (A27, c27)).length = 138 := mailV_length hmo
  have hlf : [mailC m (A27, c27)].flatten.length = 1 * 138 := by simp [lmc]
  have hof : ∀ u ∈ [mailC m (A27, c27)].flatten, u.oneCell' = true := by rw [List.flatten_cons, List.flatten_nil, List.append_nil]; exact mailV_one rfl
  refine VC_drawQ 16 5 [[], [], [], [2], [3], [4], [1, 5], [], [7], [8], [9], [], [], [10, 11, 12], [13], [6, 14], [0, 1, 2, 3, 4, 5, 6, 7, 8, 9, 10, 11, 12, 13, 14, 15], [16, 0, 1, 2, 3, 4, 5, 6, 7, 8, 9, 10, 11, 12, 13, 14, 15], [17, 15, 0, 1, 2, 3, 4, 5, 6, 7, 8, 9, 10, 11, 12, 13, 14]] [[], [], [], [2], [2, 3], [2, 3, 4], [1, 2, 3, 4, 5], [], [7], [7, 8], [7, 8, 9], [], [], [7, 8, 9, 10, 11, 12], [7, 8, 9, 10, 11, 12, 13], [1, 2, 3, 4, 5, 6, 7, 8, 9, 10, 11, 12, 13, 14], [0, 1, 2, 3, 4, 5, 6, 7, 8, 9, 10, 11, 12, 13, 14, 15], [0, 1, 2, 3, 4, 5, 6, 7, 8, 9, 10, 11, 12, 13, 14, 15, 16], [0, 1, 2, 3, 4, 5, 6, 7, 8, 9, 10, 11, 12, 13, 14, 15, 16, 17]] [([], [], [], [0, 1, 2, 3, 4], []), ([], [], [], [0, 1, 2, 3, 4], []), ([], [], [], [0, 1, 2, 3, 4], []), ([2], [], [], [0, 1, 2, 3, 4], [2]), ([2, 3], [], [], [0, 1, 2, 3, 4], [2, 3]), ([2, 3, 4], [], [], [0, 1, 2, 3, 4], [2, 3, 4]), ([1, 2, 3, 4, 5], [], [1], [0, 1, 2, 3, 4], [2, 3, 4, 5]), ([], [], [], [0, 1, 2, 3, 4], []), ([7], [], [], [0, 1, 2, 3, 4], [7]), ([7, 8], [], [], [0, 1, 2, 3, 4], [7, 8]), ([7, 8, 9], [], [], [0, 1, 2, 3, 4], [7, 8, 9]), ([], [], [], [0, 1, 2, 3, 4], []), ([], [], [], [0, 1, 2, 3, 4], []), ([7, 8, 9, 10, 11, 12], [], [], [0, 1, 2, 3, 4], [7, 8, 9, 10, 11, 12]), ([7, 8, 9, 10, 11, 12, 13], [], [], [0, 1, 2, 3, 4], [7, 8, 9, 10, 11, 12, 13]), ([1, 2, 3, 4, 5, 6, 7, 8, 9, 10, 11, 12, 13, 14], [], [6], [0, 1, 2, 3, 4], [2, 3, 4, 5, 7, 8, 9, 10, 11, 12, 13, 14])] [0, 1, 2, 3, 4] [0, 2, 3, 4, 5, 7, 8, 9, 10, 11, 12, 13, 14, 15] rfl rfl (by kernel_rfl) ?_
  refine qp_v (fun xs gs hx => q_move rfl) ?_
  refine qp_a (fun xs gs hx => q_litG [] Try.underlying27 in62 (by decide) (by decide) rfl rfl rfl (by intro v hv; cases hv)) ?_
  refine qp_v (fun xs gs hx => q_move rfl) ?_
  refine qp_v (fun xs gs hx => q_nilck rfl) ?_
  refine qp_v (fun xs gs hx => q_fldA fo29_0 (by decide) rfl rfl) ?_
  refine qp_v (fun xs gs hx => q_load 3 Try.underlying27 rfl rfl rfl rfl) ?_
  refine qp_append Try.underlying27 Try.underlying27 in62 rfl (by decide) (fun xs gs hx => rfl) (fun xs gs hx => rfl) (fun xs gs hx => ⟨_, _, rfl, fun w' H' => hr w' (H'.get (k := 4) rfl)⟩) (fun xs gs hx => by first | omega | with_reducible assumption | (simp only [zb, zu, zw, zi, za]; omega) | (simp only [zs, zr, zm, za, zb, zu, zw, zi, zt, zd, zc, zn, *] <;> first | done | omega) | rfl) (fun xs gs hx => by first | (with_reducible first | exact bys_one _ | exact u32s_one _ | exact u64s_one _ | exact i64s_one _ | exact n64s_one _ | assumption) | exact bys_one _ | exact u32s_one _ | exact u64s_one _ | exact i64s_one _ | exact one_all rfl | (refine app_one ?_ ?_ <;> first | exact bys_one _ | exact one_all rfl | (simp; done))) (by omega) (by omega) ?_
  refine qp_v (fun xs gs hx => q_move rfl) ?_
  refine qp_v (fun xs gs hx => q_nilck rfl) ?_
  refine qp_v (fun xs gs hx => q_fldA fo29_1 (by decide) rfl rfl) ?_
  refine qp_v (fun xs gs hx => q_load 3 Try.underlying3 rfl rfl rfl rfl) ?_
  refine qp_v (fun xs gs hx => q_loads 2 Try.underlying36 rfl rfl rfl sz36 (by omega)) ?_
  refine qp_v (fun xs gs hx => q_loads 1 Try.underlying38 rfl rfl rfl sz38 (by omega)) ?_
  refine qp_v (fun xs gs hx => q_buildS (tot := 138) (sizes := [1, 69, 68]) (c' := mailC m (A27, c27)) (by kernel_rfl) rfl rfl rfl rfl (by simp only [List.map_cons, List.map_nil, cellsL, Value.cells, lX2, ls]; rfl) (by rw [← hmc]; simp only [flatV, cellsL, Value.cells, List.map_cons, List.map_nil, List.flatten_cons, List.flatten_nil, List.append_nil])) ?_
  refine qp_a (fun xs gs hx => q_litG [mailC m (A27, c27)] Try.underlying27 in62 (by decide) (by decide) rfl rfl rfl (by intro v hv; rw [List.mem_singleton.1 hv]; exact lmc)) ?_
  refine qp_append Try.underlying27 Try.underlying27 in62 rfl (by decide) (fun xs gs hx => rfl) (fun xs gs hx => rfl) (fun xs gs hx => (let ⟨b', e'⟩ := hx.2.2.1 rfl; ⟨_, _, congrArg some e', Reads.rowV 5 e' rfl⟩)) (fun xs gs hx => by first | omega | with_reducible assumption | (simp only [zb, zu, zw, zi, za]; omega) | (simp only [zs, zr, zm, za, zb, zu, zw, zi, zt, zd, zc, zn, *] <;> first | done | omega) | rfl) (fun xs gs hx => by first | (with_reducible first | exact bys_one _ | exact u32s_one _ | exact u64s_one _ | exact i64s_one _ | exact n64s_one _ | assumption) | exact bys_one _ | exact u32s_one _ | exact u64s_one _ | exact i64s_one _ | exact one_all rfl | (refine app_one ?_ ?_ <;> first | exact bys_one _ | exact one_all rfl | (simp; done))) (by omega) (by omega) ?_
  refine qp_end ?_
  intro xs gs hx
  obtain ⟨⟨b30, e30⟩, ⟨A35, c35, e35, hc35, hm35⟩, ⟨b43, e43⟩, ⟨A44, c44, e44, hc44, hm44⟩, _⟩ := hx
  simp only [selI, ownsA, List.contains_cons, List.contains_nil, Nat.reduceBEq, Nat.reduceAdd, Bool.or_false, Bool.or_true, Bool.false_or, Bool.true_or, mask, nRow, nBlk, nRowT, tupAt_0, tupAt_1, List.append_assoc, List.nil_append, List.append_nil, List.cons_append, List.singleton_append, e30, e35, e43, e44]
  refine VL.keep (Sub.cons (s := 0) rfl (Sub.cons (s := 1) rfl (Sub.cons (s := 2) rfl (Sub.cons (s := 4) rfl (Sub.cons (s := 5) rfl (Sub.cons (s := 6) rfl (Sub.cons (s := 7) rfl (Sub.cons (s := 10) rfl (Sub.cons (s := 16) rfl (Sub.cons (s := 29) rfl (Sub.cons (s := 44) rfl (Sub.nil _)))))))))))) ?_
  refine vl_v (q_nilck rfl) rfl ?_
  refine vl_v (q_fldA fo29_0 (by decide) rfl rfl) rfl ?_
  refine l_store1 3 rfl rfl rfl sz27 rfl (by simp; done) ?_
  simp only [List.set_cons_zero, List.set_cons_succ]
  refine vl_nil ?_
  refine (qn_n (th_n ?_))
  refine VC_seq ?_
  refine VC_region ?_
  refine vl_v (q_move rfl) rfl ?_
  refine vl_v (q_nilck rfl) rfl ?_
  refine vl_v (q_fldA fo29_1 (by decide) rfl rfl) rfl ?_
  refine vl_v (q_load 3 Try.underlying3 rfl rfl rfl rfl) rfl ?_
  refine vl_v (q_assign rfl) rfl ?_
  refine vl_v (q_assign rfl) rfl ?_
  refine vl_nil ?_
  refine (th_n ?_)
  refine VC_ret ?_
  refine ⟨_, res2 rfl rfl rfl, ?_⟩
  refine ⟨rfl, fun w' H' => ⟨A44, c44, .row 62 138 (.slice A44 (0 + ms.length + 1) c44) (0 + ms.length + 1) ([].flatten ++ (mailsC ms ++ [mailC m (A27, c27)].flatten)), (A27, c27), fun w9 h9 => ?_, ?_, ?_⟩⟩
  rotate_right
  · have H2 := St.pick H' (ks := [3, 6, 0]) (by decide) rfl
    rw [show 0 + ms.length + 1 = ms.length + 1 by omega] at H2
    unfold DocB
    rw [show (ms ++ [((⟨((many + 1 : Nat) : Int), X, s⟩ : Mm), ((A27, c27) : Pl))]).length = ms.length + 1 by simp, show 0 + ms.length + 1 = ms.length + 1 by omega]
    exact H2
  · have h10 := Row.sl h9
    rw [mailsC_append, mailsC_one1, ← hm0]
    simpa using h10
  · rw [show (ms ++ [((⟨((many + 1 : Nat) : Int), X, s⟩ : Mm), ((A27, c27) : Pl))]).length = ms.length + 1 by simp]
    omega
end Go.Proofs.Ytadaihpeionniaa
end
section
namespace Go.Proofs.Ytadaihpeionniaa
open Go Go.RowKit Go.PBYtadaihpeionniaa
set_option linter.unusedVariables false
set_option linter.unusedSimpArgs false
set_option maxRecDepth 10000
theorem mget_in {l c : List Value} {a i : Nat} {v : Value} (h : (l.drop a).take 138 = c) (hk : c[i]? = some v) (hi : i < 138) : l[a + i]? = some v := by
  rw [← h, List.getElem?_take, if_pos hi, List.getElem?_drop] at hk
  exact hk
set_option maxHeartbeats 4000000 in
theorem rack_low {S : List Nat} {w0 w : World} {br k many : Nat} {B : Option Addr} {r : Res} {ms : List (Mm × Pl)} (id : Int) (hw : (Lit.int .i64 id).wf = true) (hms : ∀ y ∈ ms, y.1.ok) (hn : ms.length ≤ 8) (hr : ∀ w'', r.ok w'' → SlAt w'' B (mailsC ms)) (hk : ms.length ≤ k) (H : St S w0 (DocB br B k r ms many) w) (h : id < 1) :
    Calls Try.prog 12 #[vP br 0, vI id] w fun e w' => e = .returned (vI 7) ∧ St S w0 (DocB br B k r ms many) w' := by
  have hml := mailsC_length hms
  have hm1 := mailsC_one ms
  replace H : St S w0 [.blk br 29 [.slice B ms.length k, vN many], r] w := H
  refine enter (n := 54) (R := fun e L' => e = .returned (vI 7) ∧ ∀ w', St S w0 L' w' → St S w0 (DocB br B k r ms many) w') [vP br 0, vI id] Try.func12 rfl rfl rfl H ?_ (fun e w' L' h H => ⟨h.1, h.2 w' H⟩)
  refine VC_seq ?_
  refine VC_region ?_
  refine vl_v (q_assign rfl) rfl ?_
  refine vl_nil ?_
  refine (th_n ?_)
  refine VC_seq ?_
  refine VC_seq ?_
  refine VC_region ?_
  refine vl_v (q_move rfl) rfl ?_
  refine vl_v (q_as (v := .bool true) (q_lss_k (q := 1) Try.underlying3 rfl rfl) (by simp; omega)) rfl ?_
  refine vl_v (q_move rfl) rfl ?_
  refine vl_skip rfl rfl ?_
  refine vl_skip rfl rfl ?_
  refine vl_skip rfl rfl ?_
  refine vl_skip rfl rfl ?_
  refine vl_skip rfl rfl ?_
  refine vl_skip rfl rfl ?_
  refine vl_v (q_pickT rfl rfl) rfl ?_
  refine vl_nil ?_
  refine (th_n ?_)
  refine VC_yes (rfl) ?_
  refine VC_seq ?_
  refine VC_region ?_
  refine vl_v (q_assign rfl) rfl ?_
  refine vl_nil ?_
  refine (th_n ?_)
  refine VC_ret ?_
  refine (th_r ?_)
  refine ⟨_, res1 rfl rfl, ?_⟩
  exact ⟨rfl, fun w' H' => H'⟩
set_option maxHeartbeats 4000000 in
theorem rack_high {S : List Nat} {w0 w : World} {br k many : Nat} {B : Option Addr} {r : Res} {ms : List (Mm × Pl)} (id : Int) (hw : (Lit.int .i64 id).wf = true) (hms : ∀ y ∈ ms, y.1.ok) (hn : ms.length ≤ 8) (hr : ∀ w'', r.ok w'' → SlAt w'' B (mailsC ms)) (hk : ms.length ≤ k) (H : St S w0 (DocB br B k r ms many) w) (h : 1 ≤ id) (h2 : (many : Int) < id) :
    Calls Try.prog 12 #[vP br 0, vI id] w fun e w' => e = .returned (vI 7) ∧ St S w0 (DocB br B k r ms many) w' := by
  have hml := mailsC_length hms
  have hm1 := mailsC_one ms
  replace H : St S w0 [.blk br 29 [.slice B ms.length k, vN many], r] w := H
  refine enter (n := 54) (R := fun e L' => e = .returned (vI 7) ∧ ∀ w', St S w0 L' w' → St S w0 (DocB br B k r ms many) w') [vP br 0, vI id] Try.func12 rfl rfl rfl H ?_ (fun e w' L' h H => ⟨h.1, h.2 w' H⟩)
  refine VC_seq ?_
  refine VC_region ?_
  refine vl_v (q_assign rfl) rfl ?_
  refine vl_nil ?_
  refine (th_n ?_)
  refine VC_seq ?_
  refine VC_seq ?_
  refine VC_region ?_
  refine vl_v (q_move rfl) rfl ?_
  refine vl_v (q_as (v := .bool false) (q_lss_k (q := 1) Try.underlying3 rfl rfl) (by simp; omega)) rfl ?_
  refine vl_v (q_move rfl) rfl ?_
  refine vl_vg rfl (q_move rfl) rfl ?_
  refine vl_vg rfl (q_move rfl) rfl ?_
  refine vl_vg rfl (q_nilck rfl) rfl ?_
  refine vl_vg rfl (q_fldA fo29_1 (by decide) rfl rfl) rfl ?_
  refine vl_vg rfl (q_load 0 Try.underlying3 rfl rfl rfl rfl) rfl ?_
  refine vl_vg rfl (q_as (v := .bool true) (q_gtr_k Try.underlying3 rfl rfl) (by simp; omega)) rfl ?_
  refine vl_v (q_pickF rfl rfl) rfl ?_
  refine vl_nil ?_
  refine (th_n ?_)
  refine VC_yes (rfl) ?_
  refine VC_seq ?_
  refine VC_region ?_
  refine vl_v (q_assign rfl) rfl ?_
  refine vl_nil ?_
  refine (th_n ?_)
  refine VC_ret ?_
  refine (th_r ?_)
  refine ⟨_, res1 rfl rfl, ?_⟩
  exact ⟨rfl, fun w' H' => H'⟩
set_option maxHeartbeats 4000000 in
theorem rack_old {S : List Nat} {w0 w : World} {br k many : Nat} {B : Option Addr} {r : Res} {ms : List (Mm × Pl)} (id : Int) (hw : (Lit.int .i64 id).wf = true) (hms : ∀ y ∈ ms, y.1.ok) (hn : ms.length ≤ 8) (hr : ∀ w'', r.ok w'' → SlAt w'' B (mailsC ms)) (hk : ms.length ≤ k) (H : St S w0 (DocB br B k r ms many) w) (h : 1 ≤ id) (h2 : id ≤ (many : Int)) (hno : ∀ y ∈ ms, y.1.id ≠ id) :
    Calls Try.prog 12 #[vP br 0, vI id] w fun e w' => e = .returned (vI 5) ∧ St S w0 (DocB br B k r ms many) w' := by
  have hml := mailsC_length hms
  have hm1 := mailsC_one ms
  replace H : St S w0 [.blk br 29 [.slice B ms.length k, vN many], r] w := H
  refine enter (n := 54) (R := fun e L' => e = .returned (vI 5) ∧ ∀ w', St S w0 L' w' → St S w0 (DocB br B k r ms many) w') [vP br 0, vI id] Try.func12 rfl rfl rfl H ?_ (fun e w' L' h H => ⟨h.1, h.2 w' H⟩)
  refine VC_seq ?_
  refine VC_region ?_
  refine vl_v (q_assign rfl) rfl ?_
  refine vl_nil ?_
  refine (th_n ?_)
  refine VC_seq ?_
  refine VC_seq ?_
  refine VC_region ?_
  refine vl_v (q_move rfl) rfl ?_
  refine vl_v (q_as (v := .bool false) (q_lss_k (q := 1) Try.underlying3 rfl rfl) (by simp; omega)) rfl ?_
  refine vl_v (q_move rfl) rfl ?_
  refine vl_vg rfl (q_move rfl) rfl ?_
  refine vl_vg rfl (q_move rfl) rfl ?_
  refine vl_vg rfl (q_nilck rfl) rfl ?_
  refine vl_vg rfl (q_fldA fo29_1 (by decide) rfl rfl) rfl ?_
  refine vl_vg rfl (q_load 0 Try.underlying3 rfl rfl rfl rfl) rfl ?_
  refine vl_vg rfl (q_as (v := .bool false) (q_gtr_k Try.underlying3 rfl rfl) (by simp; omega)) rfl ?_
  refine vl_v (q_pickF rfl rfl) rfl ?_
  refine vl_nil ?_
  refine (th_n ?_)
  refine VC_no (rfl) ?_
  refine VC_skip ?_
  refine (th_n ?_)
  refine VC_seq ?_
  refine VC_seq ?_
  refine VC_region ?_
  refine vl_v (q_assign rfl) rfl ?_
  refine vl_nil ?_
  refine (th_n ?_)
  refine VC_block ?_
  refine VC_loop (ι := Nat) (fun i => i ≤ ms.length) (fun i => [(0, vP br 0), (1, vI id), (5, vN i)]) (fun i => [.blk br 29 [.slice B ms.length k, vN many], r]) (fun i => ms.length - i) 0 (by omega) (Sub.cons (s := 0) rfl (Sub.cons (s := 1) rfl (Sub.cons (s := 5) rfl (Sub.nil _)))) (fun w H => H) ?_
  rintro i hp
  refine VC_seq ?_
  refine VC_seq ?_
  refine VC_region ?_
  refine vl_v (q_move rfl) rfl ?_
  refine vl_v (q_move rfl) rfl ?_
  refine vl_v (q_nilck rfl) rfl ?_
  refine vl_v (q_fldA fo29_0 (by decide) rfl rfl) rfl ?_
  refine vl_v (q_load 0 Try.underlying27 rfl rfl rfl rfl) rfl ?_
  refine vl_v (q_lenS Try.underlying27 rfl) rfl ?_
  refine vl_v (q_lss_n Try.underlying3 rfl rfl) rfl ?_
  refine vl_nil ?_
  refine (th_n ?_)
  refine VC_cond rfl (fun ht22 => ?_) (fun ht22 => ?_)
  · skip
    have ht22 := of_decide_eq_true ht22
    obtain ⟨y, hy⟩ : ∃ y, ms[i]? = some y := ⟨_, List.getElem?_eq_getElem ht22⟩
    have hyo := hms y (List.mem_of_getElem? hy)
    have hpt := mailsC_part hms hy
    have hp0 : (mailsC ms)[i * 138 + 0]? = some (vI y.1.id) := mget_in hpt mailV_id (by omega)
    refine VC_skip ?_
    refine (th_n ?_)
    refine VC_seq ?_
    refine VC_block ?_
    refine VC_seq ?_
    refine VC_region ?_
    refine vl_v (q_move rfl) rfl ?_
    refine vl_v (q_nilck rfl) rfl ?_
    refine vl_v (q_fldA fo29_0 (by decide) rfl rfl) rfl ?_
    refine vl_v (q_load 0 Try.underlying27 rfl rfl rfl rfl) rfl ?_
    refine vl_v (q_move rfl) rfl ?_
    refine vl_v (q_idxRdN (m := i) Try.underlying27 sz62 rfl rfl ht22 (fun w' H' => hr w' (H'.get (k := 1) rfl)) (by rw [hml]; omega)) rfl ?_
    refine vl_v (q_fldRd fo62_0 (by decide) rfl rfl) rfl ?_
    refine vl_v (q_loadRd Try.underlying3 rfl rfl (fun w' H' => hr w' (H'.get (k := 1) rfl)) hp0) rfl ?_
    refine vl_v (q_move rfl) rfl ?_
    refine vl_v (q_eql_k Try.underlying3 rfl rfl) rfl ?_
    refine vl_nil ?_
    refine (th_n ?_)
    refine VC_cond rfl (fun ht34 => ?_) (fun ht34 => ?_)
    · skip
      exfalso; exact hno y (List.mem_of_getElem? hy) (of_decide_eq_true ht34)
    · skip
      have ht34 := of_decide_eq_false ht34
      refine VC_skip ?_
      refine (bl_n (th_n ?_))
      refine VC_region ?_
      refine vl_v (q_move rfl) rfl ?_
      refine vl_v (q_add_n (q := 1) rfl rfl (by omega)) rfl ?_
      refine vl_v (q_assign rfl) rfl ?_
      refine vl_nil ?_
      refine (th_n ?_)
      refine ⟨i + 1, by omega, by omega, (Sub.cons (s := 0) rfl (Sub.cons (s := 1) rfl (Sub.cons (s := 5) rfl (Sub.nil _)))), fun w H => H⟩
  · skip
    refine VC_exit ?_
    refine (th_x (th_x (bl_xs (th_n ?_))))
    refine VC_seq ?_
    refine VC_region ?_
    refine vl_v (q_assign rfl) rfl ?_
    refine vl_nil ?_
    refine (th_n ?_)
    refine VC_ret ?_
    refine ⟨_, res1 rfl rfl, ?_⟩
    exact ⟨rfl, fun w' H' => H'⟩
set_option maxHeartbeats 4000000 in
theorem rack_ok {S : List Nat} {w0 w : World} {br k many : Nat} {B : Option Addr} {r : Res} {ms : List (Mm × Pl)} (id : Int) (hw : (Lit.int .i64 id).wf = true) (hms : ∀ y ∈ ms, y.1.ok) (hn : ms.length ≤ 8) (hr : ∀ w'', r.ok w'' → SlAt w'' B (mailsC ms)) (hk : ms.length ≤ k) (H : St S w0 (DocB br B k r ms many) w) (j : Nat) (h : 1 ≤ id) (h2 : id ≤ (many : Int)) (hj : AtM ms id j) (hjl : j < ms.length) :
    Calls Try.prog 12 #[vP br 0, vI id] w fun e w' => e = .returned (vI 0) ∧ ∃ B' k' r', (∀ w'', r'.ok w'' → SlAt w'' B' (mailsC (ms.eraseIdx j))) ∧ (ms.eraseIdx j).length ≤ k' ∧ St S w0 (DocB br B' k' r' (ms.eraseIdx j) many) w' := by
  have hml := mailsC_length hms
  have hm1 := mailsC_one ms
  have hme := mails_erase hjl hms
  replace H : St S w0 [.blk br 29 [.slice B ms.length k, vN many], r] w := H
  refine enter (n := 54) (R := fun e L' => e = .returned (vI 0) ∧ ∀ w', St S w0 L' w' → ∃ B' k' r', (∀ w'', r'.ok w'' → SlAt w'' B' (mailsC (ms.eraseIdx j))) ∧ (ms.eraseIdx j).length ≤ k' ∧ St S w0 (DocB br B' k' r' (ms.eraseIdx j) many) w') [vP br 0, vI id] Try.func12 rfl rfl rfl H ?_ (fun e w' L' h H => ⟨h.1, h.2 w' H⟩)
  refine VC_seq ?_
  refine VC_region ?_
  refine vl_v (q_assign rfl) rfl ?_
  refine vl_nil ?_
  refine (th_n ?_)
  refine VC_seq ?_
  refine VC_seq ?_
  refine VC_region ?_
  refine vl_v (q_move rfl) rfl ?_
  refine vl_v (q_as (v := .bool false) (q_lss_k (q := 1) Try.underlying3 rfl rfl) (by simp; omega)) rfl ?_
  refine vl_v (q_move rfl) rfl ?_
  refine vl_vg rfl (q_move rfl) rfl ?_
  refine vl_vg rfl (q_move rfl) rfl ?_
  refine vl_vg rfl (q_nilck rfl) rfl ?_
  refine vl_vg rfl (q_fldA fo29_1 (by decide) rfl rfl) rfl ?_
  refine vl_vg rfl (q_load 0 Try.underlying3 rfl rfl rfl rfl) rfl ?_
  refine vl_vg rfl (q_as (v := .bool false) (q_gtr_k Try.underlying3 rfl rfl) (by simp; omega)) rfl ?_
  refine vl_v (q_pickF rfl rfl) rfl ?_
  refine vl_nil ?_
  refine (th_n ?_)
  refine VC_no (rfl) ?_
  refine VC_skip ?_
  refine (th_n ?_)
  refine VC_seq ?_
  refine VC_seq ?_
  refine VC_region ?_
  refine vl_v (q_assign rfl) rfl ?_
  refine vl_nil ?_
  refine (th_n ?_)
  refine VC_block ?_
  refine VC_loop (ι := Nat) (fun i => i ≤ j) (fun i => [(0, vP br 0), (1, vI id), (5, vN i)]) (fun i => [.blk br 29 [.slice B ms.length k, vN many], r]) (fun i => ms.length - i) 0 (by omega) (Sub.cons (s := 0) rfl (Sub.cons (s := 1) rfl (Sub.cons (s := 5) rfl (Sub.nil _)))) (fun w H => H) ?_
  rintro i hp
  refine VC_seq ?_
  refine VC_seq ?_
  refine VC_region ?_
  refine vl_v (q_move rfl) rfl ?_
  refine vl_v (q_move rfl) rfl ?_
  refine vl_v (q_nilck rfl) rfl ?_
  refine vl_v (q_fldA fo29_0 (by decide) rfl rfl) rfl ?_
  refine vl_v (q_load 0 Try.underlying27 rfl rfl rfl rfl) rfl ?_
  refine vl_v (q_lenS Try.underlying27 rfl) rfl ?_
  refine vl_v (q_lss_n Try.underlying3 rfl rfl) rfl ?_
  refine vl_nil ?_
  refine (th_n ?_)
  refine VC_cond rfl (fun ht22 => ?_) (fun ht22 => ?_)
  · skip
    have ht22 := of_decide_eq_true ht22
    obtain ⟨y, hy⟩ : ∃ y, ms[i]? = some y := ⟨_, List.getElem?_eq_getElem ht22⟩
    have hyo := hms y (List.mem_of_getElem? hy)
    have hpt := mailsC_part hms hy
    have hp0 : (mailsC ms)[i * 138 + 0]? = some (vI y.1.id) := mget_in hpt mailV_id (by omega)
    refine VC_skip ?_
    refine (th_n ?_)
    refine VC_seq ?_
    refine VC_block ?_
    refine VC_seq ?_
    refine VC_region ?_
    refine vl_v (q_move rfl) rfl ?_
    refine vl_v (q_nilck rfl) rfl ?_
    refine vl_v (q_fldA fo29_0 (by decide) rfl rfl) rfl ?_
    refine vl_v (q_load 0 Try.underlying27 rfl rfl rfl rfl) rfl ?_
    refine vl_v (q_move rfl) rfl ?_
    refine vl_v (q_idxRdN (m := i) Try.underlying27 sz62 rfl rfl ht22 (fun w' H' => hr w' (H'.get (k := 1) rfl)) (by rw [hml]; omega)) rfl ?_
    refine vl_v (q_fldRd fo62_0 (by decide) rfl rfl) rfl ?_
    refine vl_v (q_loadRd Try.underlying3 rfl rfl (fun w' H' => hr w' (H'.get (k := 1) rfl)) hp0) rfl ?_
    refine vl_v (q_move rfl) rfl ?_
    refine vl_v (q_eql_k Try.underlying3 rfl rfl) rfl ?_
    refine vl_nil ?_
    refine (th_n ?_)
    refine VC_cond rfl (fun ht34 => ?_) (fun ht34 => ?_)
    · skip
      have ht34 := of_decide_eq_true ht34
      obtain rfl : i = j := by
        by_cases h9 : i < j
        · exact absurd ht34 (hj.no i y h9 hy)
        · omega
      refine VC_seq ?_
      have lt1 : ((mailsC ms).take (i * 138)).length = i * 138 := by rw [List.length_take, hml]; omega
      have lt2 : ((mailsC ms).drop ((i + 1) * 138)).length = (ms.length - (i + 1)) * 138 := by rw [List.length_drop, hml, Nat.sub_mul]
      have ot1 : ∀ v ∈ (mailsC ms).take (i * 138), v.oneCell' = true := fun v hv => hm1 v (List.mem_of_mem_take hv)
      have ot2 : ∀ v ∈ (mailsC ms).drop ((i + 1) * 138), v.oneCell' = true := fun v hv => hm1 v (List.mem_of_mem_drop hv)
      refine VC_drawQ 17 2 [[], [], [], [2], [3], [4], [], [5, 6], [1, 7], [], [9], [10], [11], [], [13], [12, 14], [8, 15], [0, 1, 2, 3, 4, 5, 6, 7, 8, 9, 10, 11, 12, 13, 14, 15, 16], [17, 0, 1, 2, 3, 4, 5, 6, 7, 8, 9, 10, 11, 12, 13, 14, 15, 16], [18, 16, 0, 1, 2, 3, 4, 5, 6, 7, 8, 9, 10, 11, 12, 13, 14, 15]] [[], [], [], [2], [2, 3], [2, 3, 4], [], [2, 3, 4, 5, 6], [1, 2, 3, 4, 5, 6, 7], [], [9], [9, 10], [9, 10, 11], [], [13], [9, 10, 11, 12, 13, 14], [1, 2, 3, 4, 5, 6, 7, 8, 9, 10, 11, 12, 13, 14, 15], [0, 1, 2, 3, 4, 5, 6, 7, 8, 9, 10, 11, 12, 13, 14, 15, 16], [0, 1, 2, 3, 4, 5, 6, 7, 8, 9, 10, 11, 12, 13, 14, 15, 16, 17], [0, 1, 2, 3, 4, 5, 6, 7, 8, 9, 10, 11, 12, 13, 14, 15, 16, 17, 18]] [([], [], [], [0, 1], []), ([], [], [], [0, 1], []), ([], [], [], [0, 1], []), ([2], [], [], [0, 1], [2]), ([2, 3], [], [], [0, 1], [2, 3]), ([2, 3, 4], [], [], [0, 1], [2, 3, 4]), ([], [], [], [0, 1], []), ([2, 3, 4, 5, 6], [], [], [0, 1], [2, 3, 4, 5, 6]), ([1, 2, 3, 4, 5, 6, 7], [], [1], [0, 1], [2, 3, 4, 5, 6, 7]), ([], [], [], [0, 1], []), ([9], [], [], [0, 1], [9]), ([9, 10], [], [], [0, 1], [9, 10]), ([9, 10, 11], [], [], [0, 1], [9, 10, 11]), ([], [], [], [0, 1], []), ([13], [], [], [0, 1], [13]), ([9, 10, 11, 12, 13, 14], [], [], [0, 1], [9, 10, 11, 12, 13, 14]), ([1, 2, 3, 4, 5, 6, 7, 8, 9, 10, 11, 12, 13, 14, 15], [], [8], [0, 1], [2, 3, 4, 5, 6, 7, 9, 10, 11, 12, 13, 14, 15])] [0, 1] [0, 2, 3, 4, 5, 6, 7, 9, 10, 11, 12, 13, 14, 15, 16] rfl rfl (by kernel_rfl) ?_
      refine qp_v (fun xs gs hx => q_move rfl) ?_
      refine qp_a (fun xs gs hx => q_litG [] Try.underlying27 in62 (by decide) (by decide) rfl rfl rfl (by intro v hv; cases hv)) ?_
      refine qp_v (fun xs gs hx => q_move rfl) ?_
      refine qp_v (fun xs gs hx => q_nilck rfl) ?_
      refine qp_v (fun xs gs hx => q_fldA fo29_0 (by decide) rfl rfl) ?_
      refine qp_v (fun xs gs hx => q_load 0 Try.underlying27 rfl rfl rfl rfl) ?_
      refine qp_v (fun xs gs hx => q_move rfl) ?_
      refine qp_v (fun xs gs hx => q_slcS0 Try.underlying27 sz62 rfl ⟨_, rfl⟩ rfl (.inl rfl) (by omega) (by omega)) ?_
      refine qp_append Try.underlying27 Try.underlying27 in62 rfl (by decide) (fun xs gs hx => rfl) (fun xs gs hx => rfl) (fun xs gs hx => ⟨_, _, rfl, fun w' H' => (hr w' (H'.get (k := 1) rfl)).take (i * 138)⟩) (fun xs gs hx => by first | omega | with_reducible assumption | (simp only [zb, zu, zw, zi, za]; omega) | (simp only [zs, zr, zm, za, zb, zu, zw, zi, zt, zd, zc, zn, *] <;> first | done | omega) | rfl) (fun xs gs hx => by first | (with_reducible first | exact bys_one _ | exact u32s_one _ | exact u64s_one _ | exact i64s_one _ | exact n64s_one _ | assumption) | exact bys_one _ | exact u32s_one _ | exact u64s_one _ | exact i64s_one _ | exact one_all rfl | (refine app_one ?_ ?_ <;> first | exact bys_one _ | exact one_all rfl | (simp; done))) (by omega) (by omega) ?_
      refine qp_v (fun xs gs hx => q_move rfl) ?_
      refine qp_v (fun xs gs hx => q_nilck rfl) ?_
      refine qp_v (fun xs gs hx => q_fldA fo29_0 (by decide) rfl rfl) ?_
      refine qp_v (fun xs gs hx => q_load 0 Try.underlying27 rfl rfl rfl rfl) ?_
      refine qp_v (fun xs gs hx => q_move rfl) ?_
      refine qp_v (fun xs gs hx => q_add_n (q := 1) rfl rfl (by omega)) ?_
      refine qp_v (fun xs gs hx => q_slcS Try.underlying27 sz62 rfl ⟨_, rfl⟩ rfl rfl (.inl rfl) (by omega) (by omega) (by omega)) ?_
      refine qp_append Try.underlying27 Try.underlying27 in62 rfl (by decide) (fun xs gs hx => rfl) (fun xs gs hx => rfl) (fun xs gs hx => ⟨_, _, rfl, fun w' H' => (hr w' (H'.get (k := 1) rfl)).dropIf (fun h => by omega)⟩) (fun xs gs hx => by first | omega | with_reducible assumption | (simp only [zb, zu, zw, zi, za]; omega) | (simp only [zs, zr, zm, za, zb, zu, zw, zi, zt, zd, zc, zn, *] <;> first | done | omega) | rfl) (fun xs gs hx => by first | (with_reducible first | exact bys_one _ | exact u32s_one _ | exact u64s_one _ | exact i64s_one _ | exact n64s_one _ | assumption) | exact bys_one _ | exact u32s_one _ | exact u64s_one _ | exact i64s_one _ | exact one_all rfl | (refine app_one ?_ ?_ <;> first | exact bys_one _ | exact one_all rfl | (simp; done))) (by omega) (by omega) ?_
      refine qp_end ?_
      intro xs gs hx
      obtain ⟨⟨b36, e36⟩, ⟨A43, c43, e43, hc43, hm43⟩, ⟨A51, c51, e51, hc51, hm51⟩, _⟩ := hx
      simp only [selI, ownsA, List.contains_cons, List.contains_nil, Nat.reduceBEq, Nat.reduceAdd, Bool.or_false, Bool.or_true, Bool.false_or, Bool.true_or, mask, nRow, nBlk, nRowT, tupAt_0, tupAt_1, List.append_assoc, List.nil_append, List.append_nil, List.cons_append, List.singleton_append, e36, e43, e51]
      refine VL.keep (Sub.cons (s := 0) rfl (Sub.cons (s := 1) rfl (Sub.cons (s := 5) rfl (Sub.cons (s := 22) rfl (Sub.cons (s := 34) rfl (Sub.cons (s := 35) rfl (Sub.cons (s := 51) rfl (Sub.nil _)))))))) ?_
      refine vl_v (q_nilck rfl) rfl ?_
      refine vl_v (q_fldA fo29_0 (by decide) rfl rfl) rfl ?_
      refine l_store1 0 rfl rfl rfl sz27 rfl (by simp; done) ?_
      simp only [List.set_cons_zero, List.set_cons_succ]
      refine vl_nil ?_
      refine (qn_n (th_n ?_))
      refine VC_seq ?_
      refine VC_region ?_
      refine vl_v (q_assign rfl) rfl ?_
      refine vl_nil ?_
      refine (th_n ?_)
      refine VC_ret ?_
      refine (bl_r (th_r (th_r (bl_r (th_r ?_)))))
      refine ⟨_, res1 rfl rfl, ?_⟩
      refine ⟨rfl, fun w' H' => ⟨A51, c51, .row 62 138 (.slice A51 (0 + i + (ms.length - (i + 1))) c51) (0 + i + (ms.length - (i + 1))) ([].flatten ++ (mailsC ms).take (i * 138) ++ (mailsC ms).drop ((i + 1) * 138)), fun w9 h9 => ?_, ?_, ?_⟩⟩
      rotate_right
      · have H2 := St.pick H' (ks := [0, 2]) (by decide) rfl
        unfold DocB
        rw [show (ms.eraseIdx i).length = 0 + i + (ms.length - (i + 1)) by rw [List.length_eraseIdx, if_pos hjl]; omega]
        exact H2
      · have h10 := Row.sl h9
        rw [hme]
        exact h10
      · rw [show (ms.eraseIdx i).length = 0 + i + (ms.length - (i + 1)) by rw [List.length_eraseIdx, if_pos hjl]; omega]
        exact hc51
    · skip
      have ht34 := of_decide_eq_false ht34
      have hlt : i < j := by
        by_cases h9 : i < j
        · exact h9
        · obtain rfl : i = j := by omega
          exact absurd (hj.yes y hy) ht34
      refine VC_skip ?_
      refine (bl_n (th_n ?_))
      refine VC_region ?_
      refine vl_v (q_move rfl) rfl ?_
      refine vl_v (q_add_n (q := 1) rfl rfl (by omega)) rfl ?_
      refine vl_v (q_assign rfl) rfl ?_
      refine vl_nil ?_
      refine (th_n ?_)
      refine ⟨i + 1, by omega, by omega, (Sub.cons (s := 0) rfl (Sub.cons (s := 1) rfl (Sub.cons (s := 5) rfl (Sub.nil _)))), fun w H => H⟩
  · skip
    have ht22 := of_decide_eq_false ht22
    exfalso; omega
end Go.Proofs.Ytadaihpeionniaa
end
section
namespace Go.PBYtadaihpeionniaa
open Go Go.RowKit
abbrev kStamp : List IntKind := [.i64, .i64, .i64, .i64] ++ (List.replicate 32 .u8 ++ List.replicate 32 .u8)
/-- its numbers are numbers of the program -/
structure Mm.fit (m : Mm) : Prop where
  h : Fits (headC m.X.pub m.X.p m.X.q) (List.replicate 32 .u8 ++ [.i64, .i64])
  s : Fits (stC m.s) kStamp
end Go.PBYtadaihpeionniaa
namespace Go.Proofs.Ytadaihpeionniaa
open Go Go.RowKit Go.PBYtadaihpeionniaa
set_option linter.unusedVariables false
set_option linter.unusedSimpArgs false
set_option maxRecDepth 10000
theorem flatStamp : Flat Try.prog 38 kStamp :=
  flat_of (m := 6) laid12 (by omega) (of_decide_eq_true (by kernel_rfl)) (by kernel_rfl) (by kernel_rfl) (by kernel_rfl) (by kernel_rfl) (by kernel_rfl) (by kernel_rfl)
theorem mpart_in {l c : List Value} {a i m : Nat} {k : List Value} (h : (l.drop a).take 138 = c) (hk : (c.drop i).take m = k) (hm : i + m ≤ 138) : (l.drop (a + i)).take m = k := by
  rw [← h, List.drop_take, List.take_take, List.drop_drop, Nat.min_eq_left (by omega)] at hk
  exact hk
set_option maxHeartbeats 4000000 in
theorem same19_calls (w : World) (ms ns : List (Mm × Pl)) (A B : Option Addr) (c k : Nat) (hms : ∀ y ∈ ms, y.1.ok) (hfit : ∀ y ∈ ms, y.1.fit) (hn : ms.length ≤ 8) (heq : mids ms = mids ns) (hA : SlAt w A (mailsC ms)) (hB : SlAt w B (mailsC ns)) (hbA : ∀ y ∈ ms, SlAt w y.2.1 (bys y.1.X.body)) (hbB : ∀ y ∈ ns, SlAt w y.2.1 (bys y.1.X.body)) :
    Calls Try.prog 13 #[.slice A ms.length c, .slice B ns.length k] w fun e w' => e = .returned (.bool true) ∧ Kept [] w w' := by
  have hl : ns.length = ms.length := by have := congrArg List.length heq; simpa [mids] using this.symm
  have hns : ∀ y ∈ ns, y.1.ok := fun y hy => by
    have h1 : y.1 ∈ mids ms := heq ▸ List.mem_map.2 ⟨y, hy, rfl⟩
    obtain ⟨z, hz, e⟩ := List.mem_map.1 h1
    exact e ▸ hms z hz
  have hml := mailsC_length hms
  have hnl := mailsC_length hns
  rw [hl] at hnl ⊢
  refine enter (n := 57) (R := fun e L => e = .returned (.bool true)) [.slice A ms.length c, .slice B ms.length k] Try.func13 rfl rfl rfl (St.refl w) ?_ (fun e w' L' h H => ⟨h, H.kept⟩)
  refine VC_seq ?_
  refine VC_region ?_
  refine vl_v (q_assign rfl) rfl ?_
  refine vl_nil ?_
  refine (th_n ?_)
  refine VC_seq ?_
  refine VC_seq ?_
  refine VC_region ?_
  refine vl_v (q_move rfl) rfl ?_
  refine vl_v (q_lenS Try.underlying46 rfl) rfl ?_
  refine vl_v (q_move rfl) rfl ?_
  refine vl_v (q_lenS Try.underlying27 rfl) rfl ?_
  refine vl_v (q_as (v := .bool false) (q_neq_n Try.underlying3 rfl rfl) (by rw [decide_eq_true rfl]; rfl)) rfl ?_
  refine vl_nil ?_
  refine (th_n ?_)
  refine VC_no (rfl) ?_
  refine VC_skip ?_
  refine (th_n ?_)
  refine VC_seq ?_
  refine VC_seq ?_
  refine VC_region ?_
  refine vl_v (q_assign rfl) rfl ?_
  refine vl_nil ?_
  refine (th_n ?_)
  refine VC_block ?_
  refine VC_loop (ι := Nat) (fun i => i ≤ ms.length) (fun i => [(0, .slice A ms.length c), (1, .slice B ms.length k), (5, vN i)]) (fun i => []) (fun i => ms.length - i) 0 (by omega) (Sub.cons (s := 0) rfl (Sub.cons (s := 1) rfl (Sub.cons (s := 5) rfl (Sub.nil _)))) (fun w H => H) ?_
  rintro i hp
  refine VC_seq ?_
  refine VC_seq ?_
  refine VC_region ?_
  refine vl_v (q_move rfl) rfl ?_
  refine vl_v (q_move rfl) rfl ?_
  refine vl_v (q_lenS Try.underlying46 rfl) rfl ?_
  refine vl_v (q_lss_n Try.underlying3 rfl rfl) rfl ?_
  refine vl_nil ?_
  refine (th_n ?_)
  refine VC_cond rfl (fun ht15 => ?_) (fun ht15 => ?_)
  · skip
    have ht15 := of_decide_eq_true ht15
    obtain ⟨y, hy⟩ : ∃ y, ms[i]? = some y := ⟨_, List.getElem?_eq_getElem ht15⟩
    obtain ⟨z, hz⟩ : ∃ z, ns[i]? = some z := ⟨_, List.getElem?_eq_getElem (by omega)⟩
    have hym := List.mem_of_getElem? hy
    have hzm := List.mem_of_getElem? hz
    have hyz : z.1 = y.1 := by
      have h1 : (mids ms)[i]? = some y.1 := by rw [mids, List.getElem?_map, hy]; rfl
      have h2 : (mids ns)[i]? = some z.1 := by rw [mids, List.getElem?_map, hz]; rfl
      rw [heq, h2] at h1
      exact Option.some.inj h1
    have hyo := hms y hym
    have hyf := hfit y hym
    have hpt := mailsC_part hms hy
    have hqt := mailsC_part hns hz
    have hbz := hbB z hzm
    rw [hyz] at hqt hbz
    have p0 := mget_in hpt mailV_id (by omega)
    have q0 := mget_in hqt mailV_id (by omega)
    have p1 := mpart_in hpt (mailV_env hyo) (by omega)
    have q1 := mpart_in hqt (mailV_env hyo) (by omega)
    have p2 := mpart_in hpt (mailV_st hyo) (by omega)
    have q2 := mpart_in hqt (mailV_st hyo) (by omega)
    have ls := stC_length hyo.s
    have hSm := fun w hA hB => same_calls y.1.X y.1.X y.2.1 z.2.1 y.2.2 z.2.2 hyo.cm hyo.pub hyo.cm hyo.pub hyf.h hyf.h w hA hB
    rw [sameEB_refl] at hSm
    refine VC_skip ?_
    refine (th_n ?_)
    refine VC_seq ?_
    refine VC_block ?_
    refine VC_seq ?_
    refine VC_drawV 10 [[], [], [0, 1], [2], [3], [], [], [5, 6], [7], [8], [4, 9], [10, 0, 1, 2, 3, 4, 5, 6, 7, 8, 9]] [[], [], [0, 1], [0, 1, 2], [0, 1, 2, 3], [], [], [5, 6], [5, 6, 7], [5, 6, 7, 8], [0, 1, 2, 3, 4, 5, 6, 7, 8, 9], [0, 1, 2, 3, 4, 5, 6, 7, 8, 9, 10]] rfl (by kernel_rfl) ?_
    refine qv_v (q_move rfl) ?_
    refine qv_v (q_move rfl) ?_
    refine qv_v (q_idxRdN (m := i) Try.underlying46 sz52 rfl rfl ht15 (Reads.old hA) (by rw [hml]; omega)) ?_
    refine qv_v (q_fldRd fo52_1 (by decide) rfl rfl) ?_
    refine qv_v (q_loadsRd Try.underlying36 rfl sz36 rfl (Reads.old hA) p1 (mEnv_len hyo) (by omega)) ?_
    refine qv_v (q_move rfl) ?_
    refine qv_v (q_move rfl) ?_
    refine qv_v (q_idxRdN (m := i) Try.underlying27 sz62 rfl rfl ht15 (Reads.old hB) (by rw [hnl]; omega)) ?_
    refine qv_v (q_fldRd fo62_1 (by decide) rfl rfl) ?_
    refine qv_v (q_loadsRd Try.underlying36 rfl sz36 rfl (Reads.old hB) q1 (mEnv_len hyo) (by omega)) ?_
    refine qv_end ?_
    refine VL.keep (Sub.cons (s := 0) rfl (Sub.cons (s := 1) rfl (Sub.cons (s := 5) rfl (Sub.cons (s := 15) rfl (Sub.cons (s := 22) rfl (Sub.cons (s := 27) rfl (Sub.nil _))))))) ?_
    refine vl_v (q_callV Try.func19 rfl rfl rfl (fun w1 H1 => hSm w1 (H1.sl0 (hbA y hym)) (H1.sl0 hbz))) rfl ?_
    refine vl_v (q_assign rfl) rfl ?_
    refine vl_nil ?_
    refine (qn_n (th_n ?_))
    refine VC_seq ?_
    refine VC_drawV 26 [[], [0], [1], [2], [2], [3, 4, 2], [5, 2], [6, 2], [2], [2], [8, 9, 2], [10, 2], [11, 2], [7, 12, 2], [2, 13], [14, 2], [15], [15], [16, 17, 15], [18, 15], [19, 15], [15], [15], [21, 22, 15], [23, 15], [24, 15], [20, 25, 15], [15, 26]] [[], [0], [0, 1], [0, 1, 2], [0, 1, 2], [0, 1, 2, 3, 4], [0, 1, 2, 3, 4, 5], [0, 1, 2, 3, 4, 5, 6], [0, 1, 2], [0, 1, 2], [0, 1, 2, 8, 9], [0, 1, 2, 8, 9, 10], [0, 1, 2, 8, 9, 10, 11], [0, 1, 2, 3, 4, 5, 6, 7, 8, 9, 10, 11, 12], [0, 1, 2, 3, 4, 5, 6, 7, 8, 9, 10, 11, 12, 13], [0, 1, 2, 3, 4, 5, 6, 7, 8, 9, 10, 11, 12, 13, 14], [0, 1, 2, 3, 4, 5, 6, 7, 8, 9, 10, 11, 12, 13, 14, 15], [0, 1, 2, 3, 4, 5, 6, 7, 8, 9, 10, 11, 12, 13, 14, 15], [0, 1, 2, 3, 4, 5, 6, 7, 8, 9, 10, 11, 12, 13, 14, 15, 16, 17], [0, 1, 2, 3, 4, 5, 6, 7, 8, 9, 10, 11, 12, 13, 14, 15, 16, 17, 18], [0, 1, 2, 3, 4, 5, 6, 7, 8, 9, 10, 11, 12, 13, 14, 15, 16, 17, 18, 19], [0, 1, 2, 3, 4, 5, 6, 7, 8, 9, 10, 11, 12, 13, 14, 15], [0, 1, 2, 3, 4, 5, 6, 7, 8, 9, 10, 11, 12, 13, 14, 15], [0, 1, 2, 3, 4, 5, 6, 7, 8, 9, 10, 11, 12, 13, 14, 15, 21, 22], [0, 1, 2, 3, 4, 5, 6, 7, 8, 9, 10, 11, 12, 13, 14, 15, 21, 22, 23], [0, 1, 2, 3, 4, 5, 6, 7, 8, 9, 10, 11, 12, 13, 14, 15, 21, 22, 23, 24], [0, 1, 2, 3, 4, 5, 6, 7, 8, 9, 10, 11, 12, 13, 14, 15, 16, 17, 18, 19, 20, 21, 22, 23, 24, 25], [0, 1, 2, 3, 4, 5, 6, 7, 8, 9, 10, 11, 12, 13, 14, 15, 16, 17, 18, 19, 20, 21, 22, 23, 24, 25, 26]] rfl (by kernel_rfl) ?_
    refine qv_v (q_move rfl) ?_
    refine qv_v (q_not rfl) ?_
    refine qv_v (q_move rfl) ?_
    refine qv_vg (rfl) (q_move rfl) ?_
    refine qv_vg (rfl) (q_move rfl) ?_
    refine qv_vg (rfl) (q_idxRdN (m := i) Try.underlying46 sz52 rfl rfl ht15 (Reads.old hA) (by rw [hml]; omega)) ?_
    refine qv_vg (rfl) (q_fldRd fo52_0 (by decide) rfl rfl) ?_
    refine qv_vg (rfl) (q_loadRd Try.underlying3 rfl rfl (Reads.old hA) p0) ?_
    refine qv_vg (rfl) (q_move rfl) ?_
    refine qv_vg (rfl) (q_move rfl) ?_
    refine qv_vg (rfl) (q_idxRdN (m := i) Try.underlying27 sz62 rfl rfl ht15 (Reads.old hB) (by rw [hnl]; omega)) ?_
    refine qv_vg (rfl) (q_fldRd fo62_0 (by decide) rfl rfl) ?_
    refine qv_vg (rfl) (q_loadRd Try.underlying3 rfl rfl (Reads.old hB) q0) ?_
    refine qv_vg (rfl) (q_as (v := .bool false) (q_neq_k Try.underlying3 rfl rfl) (by rw [decide_eq_true rfl]; rfl)) ?_
    refine qv_v (q_pickF rfl rfl) ?_
    refine qv_v (q_move rfl) ?_
    refine qv_vg (rfl) (q_move rfl) ?_
    refine qv_vg (rfl) (q_move rfl) ?_
    refine qv_vg (rfl) (q_idxRdN (m := i) Try.underlying46 sz52 rfl rfl ht15 (Reads.old hA) (by rw [hml]; omega)) ?_
    refine qv_vg (rfl) (q_fldRd fo52_2 (by decide) rfl rfl) ?_
    refine qv_vg (rfl) (q_loadsRd Try.underlying38 rfl sz38 rfl (Reads.old hA) p2 ls (by omega)) ?_
    refine qv_vg (rfl) (q_move rfl) ?_
    refine qv_vg (rfl) (q_move rfl) ?_
    refine qv_vg (rfl) (q_idxRdN (m := i) Try.underlying27 sz62 rfl rfl ht15 (Reads.old hB) (by rw [hnl]; omega)) ?_
    refine qv_vg (rfl) (q_fldRd fo62_2 (by decide) rfl rfl) ?_
    refine qv_vg (rfl) (q_loadsRd Try.underlying38 rfl sz38 rfl (Reads.old hB) q2 ls (by omega)) ?_
    refine qv_end ?_
    refine VL.keep (Sub.cons (s := 0) rfl (Sub.cons (s := 1) rfl (Sub.cons (s := 5) rfl (Sub.cons (s := 15) rfl (Sub.cons (s := 6) rfl (Sub.cons (s := 44) rfl (Sub.cons (s := 49) rfl (Sub.cons (s := 54) rfl (Sub.nil _))))))))) ?_
    refine vl_vg rfl (q_as (v := .bool false) (q_neR (r := true) flatStamp rfl rfl hyf.s hyf.s (by simp)) rfl) rfl ?_
    refine vl_v (q_pickF rfl rfl) rfl ?_
    refine vl_nil ?_
    refine (qn_n (th_n ?_))
    refine VC_no (rfl) ?_
    refine VC_skip ?_
    refine (bl_n (th_n ?_))
    refine VC_region ?_
    refine vl_v (q_move rfl) rfl ?_
    refine vl_v (q_add_n (q := 1) rfl rfl (by omega)) rfl ?_
    refine vl_v (q_assign rfl) rfl ?_
    refine vl_nil ?_
    refine (th_n ?_)
    refine ⟨i + 1, by omega, by omega, (Sub.cons (s := 0) rfl (Sub.cons (s := 1) rfl (Sub.cons (s := 5) rfl (Sub.nil _)))), fun w H => H⟩
  · skip
    refine VC_exit ?_
    refine (th_x (th_x (bl_xs (th_n ?_))))
    refine VC_seq ?_
    refine VC_region ?_
    refine vl_v (q_assign rfl) rfl ?_
    refine vl_nil ?_
    refine (th_n ?_)
    refine VC_ret ?_
    refine ⟨_, res1 rfl rfl, ?_⟩
    exact rfl
end Go.Proofs.Ytadaihpeionniaa
end
section
namespace Go.PBYtadaihpeionniaa
open Go Go.RowKit
/-- what Put tells, and what is kept then -/
structure PutM where
  id : Nat
  e : Nat
  l : List Mm
  many : Nat
def putM (M : List Mm) (many : Nat) (X : EnvD) (s : StD) : PutM :=
  if enR X = false then ⟨0, 1, M, many⟩ else if 8 ≤ M.length then ⟨0, 8, M, many⟩ else ⟨many + 1, 0, M ++ [⟨((many + 1 : Nat) : Int), X, s⟩], many + 1⟩
end Go.PBYtadaihpeionniaa
namespace Go.Proofs.Ytadaihpeionniaa
open Go Go.RowKit Go.PBYtadaihpeionniaa
set_option linter.unusedVariables false
set_option linter.unusedSimpArgs false
set_option maxRecDepth 10000
theorem mids_length (ms : List (Mm × Pl)) : (mids ms).length = ms.length := by simp [mids]
/-- the bodies of the mails ns, but those of ms, stand in N -/
def Fresh (N : List Res) (ms ns : List (Mm × Pl)) : Prop := ∀ w : World, (∀ r ∈ N, r.ok w) → ∀ y ∈ ns, y ∈ ms ∨ SlAt w y.2.1 (bys y.1.X.body)
theorem fresh_same (ms : List (Mm × Pl)) : Fresh [] ms ms := fun w _ y hy => .inl hy
theorem fresh_one (ms : List (Mm × Pl)) (m : Mm) (x : Pl) : Fresh [bodyR 5 m.X.body x] ms (ms ++ [(m, x)]) := fun w h y hy => by
  rcases List.mem_append.1 hy with hy | hy
  · exact .inl hy
  · rw [List.mem_singleton.1 hy]
    exact .inr (Row.sl (h _ (List.mem_singleton.2 rfl)))
theorem put_calls {w w1 : World} {b c many : Nat} {A : Option Addr} {ms : List (Mm × Pl)} {R : List Res} (X : EnvD) (s : StD) (A0 : Option Addr) (c0 : Nat) (hc : X.cm.length = 32) (hp : X.pub.length = 32) (hs : s.ok) (hms : ∀ y ∈ ms, y.1.ok) (hm : many ≤ 1000) (hb : X.body.length ≤ 1000) (hA0 : SlAt w A0 (bys X.body)) (H : St [] w (BoxR b A c ms many ++ R) w1) :
    Calls Try.prog 9 #[vP b 0, .agg (envOf X (A0, c0)).toArray, .agg (stC s).toArray] w1 fun e w' => ∃ A' c' ms' N, e = .returned (.tuple #[vN (putM (mids ms) many X s).id, vN (putM (mids ms) many X s).e]) ∧ mids ms' = (putM (mids ms) many X s).l ∧ Fresh N ms ms' ∧ St [] w (BoxR b A' c' ms' (putM (mids ms) many X s).many ++ (N ++ R)) w' := by
  unfold putM
  have hR := fun L => Reads.own (L := L) hA0 H
  by_cases h1 : enR X = false
  · rw [if_pos h1]
    exact (put_bad X s A0 c0 hc hp hs hms hR H.own h1).mono fun e w' h => ⟨A, c, ms, [], h.1, rfl, fresh_same ms, H.swap h.2⟩
  · rw [if_neg h1]
    have h1 : enR X = true := by simpa using h1
    by_cases h2 : 8 ≤ (mids ms).length
    · rw [if_pos h2]
      rw [mids_length] at h2
      exact (put_full X s A0 c0 hc hp hs hms hR H.own h1 h2).mono fun e w' h => ⟨A, c, ms, [], h.1, rfl, fresh_same ms, H.swap h.2⟩
    · rw [if_neg h2]
      rw [mids_length] at h2
      exact (put_ok X s A0 c0 hc hp hs hms hR H.own h1 (by omega) hm hb).mono fun e w' ⟨h, A', c', x, h3⟩ => ⟨A', c', ms ++ [(⟨((many + 1 : Nat) : Int), X, s⟩, x)], [bodyR 5 X.body x], h, by simp [mids], fresh_one ms ⟨((many + 1 : Nat) : Int), X, s⟩ x, by have := H.swap h3; rw [List.append_assoc] at this; exact this⟩
theorem rput_calls {w w1 : World} {br k many : Nat} {B : Option Addr} {r : Res} {ms : List (Mm × Pl)} {R : List Res} (X : EnvD) (s : StD) (A0 : Option Addr) (c0 : Nat) (hc : X.cm.length = 32) (hp : X.pub.length = 32) (hs : s.ok) (hms : ∀ y ∈ ms, y.1.ok) (hr : ∀ w'', r.ok w'' → SlAt w'' B (mailsC ms)) (hk : ms.length ≤ k) (hm : many ≤ 1000) (hb : X.body.length ≤ 1000) (hA0 : SlAt w A0 (bys X.body)) (H : St [] w (DocB br B k r ms many ++ R) w1) :
    Calls Try.prog 10 #[vP br 0, .agg (envOf X (A0, c0)).toArray, .agg (stC s).toArray] w1 fun e w' => ∃ B' k' r' ms' N, e = .returned (.tuple #[vN (putM (mids ms) many X s).id, vN (putM (mids ms) many X s).e]) ∧ mids ms' = (putM (mids ms) many X s).l ∧ Fresh N ms ms' ∧ (∀ w'', r'.ok w'' → SlAt w'' B' (mailsC ms')) ∧ ms'.length ≤ k' ∧ St [] w (DocB br B' k' r' ms' (putM (mids ms) many X s).many ++ (N ++ R)) w' := by
  unfold putM
  have hR := fun L => Reads.own (L := L) hA0 H
  by_cases h1 : enR X = false
  · rw [if_pos h1]
    exact (rput_bad X s A0 c0 hc hp hs hms hr hk hR H.own h1).mono fun e w' h => ⟨B, k, r, ms, [], h.1, rfl, fresh_same ms, hr, hk, H.swap h.2⟩
  · rw [if_neg h1]
    have h1 : enR X = true := by simpa using h1
    by_cases h2 : 8 ≤ (mids ms).length
    · rw [if_pos h2]
      rw [mids_length] at h2
      exact (rput_full X s A0 c0 hc hp hs hms hr hk hR H.own h1 h2).mono fun e w' h => ⟨B, k, r, ms, [], h.1, rfl, fresh_same ms, hr, hk, H.swap h.2⟩
    · rw [if_neg h2]
      rw [mids_length] at h2
      exact (rput_ok X s A0 c0 hc hp hs hms hr hk hR H.own h1 (by omega) hm hb).mono fun e w' ⟨h, B', k', r', x, h3, h4, h5⟩ => ⟨B', k', r', ms ++ [(⟨((many + 1 : Nat) : Int), X, s⟩, x)], [bodyR 5 X.body x], h, by simp [mids], fresh_one ms ⟨((many + 1 : Nat) : Int), X, s⟩ x, h3, h4, by have := H.swap h5; rw [List.append_assoc] at this; exact this⟩
end Go.Proofs.Ytadaihpeionniaa
end
section
namespace Go.PBYtadaihpeionniaa
open Go Go.RowKit
def ackM (M : List Mm) (many : Nat) (id : Int) : Nat × List Mm :=
  if id < 1 ∨ (many : Int) < id then (7, M) else if id ∈ M.map Mm.id then (0, M.eraseP fun m => decide (m.id = id)) else (5, M)
end Go.PBYtadaihpeionniaa
namespace Go.Proofs.Ytadaihpeionniaa
open Go Go.RowKit Go.PBYtadaihpeionniaa
set_option linter.unusedVariables false
set_option linter.unusedSimpArgs false
set_option maxRecDepth 10000
theorem at_of {id : Int} : ∀ {ms : List (Mm × Pl)}, id ∈ (mids ms).map Mm.id → ∃ j, AtM ms id j ∧ j < ms.length ∧ mids (ms.eraseIdx j) = (mids ms).eraseP fun m => decide (m.id = id)
  | [], h => by simp [mids] at h
  | y :: r, h => by
    by_cases hy : y.1.id = id
    · refine ⟨0, ⟨Nat.zero_le _, fun i z hi => absurd hi (Nat.not_lt_zero i), fun z hz => ?_⟩, by simp, ?_⟩
      · have : y = z := by simpa using hz
        exact this ▸ hy
      · show mids r = (y.1 :: mids r).eraseP _
        rw [List.eraseP_cons_of_pos (by simpa using hy)]
    · have h' : id ∈ (mids r).map Mm.id := by
        rcases List.mem_cons.1 (show id ∈ y.1.id :: (mids r).map Mm.id from h) with h | h
        · exact absurd h.symm hy
        · exact h
      obtain ⟨j, hj, hl, he⟩ := at_of h'
      refine ⟨j + 1, ⟨by simp; omega, fun i z hi hz => ?_, fun z hz => hj.yes z (by simpa using hz)⟩, by simp; omega, ?_⟩
      · cases i with
        | zero =>
          have : y = z := by simpa using hz
          exact this ▸ hy
        | succ i => exact hj.no i z (by omega) (by simpa using hz)
      · show y.1 :: mids (r.eraseIdx j) = (y.1 :: mids r).eraseP _
        rw [List.eraseP_cons_of_neg (by simpa using hy), he]
theorem at_no {id : Int} {ms : List (Mm × Pl)} (h : id ∉ (mids ms).map Mm.id) : ∀ y ∈ ms, y.1.id ≠ id := fun y hy he => h (List.mem_map.2 ⟨y.1, List.mem_map.2 ⟨y, hy, rfl⟩, he⟩)
theorem ack_calls {S : List Nat} {w0 w1 : World} {b c many : Nat} {A : Option Addr} {ms : List (Mm × Pl)} {R : List Res} (id : Int) (hw : (Lit.int .i64 id).wf = true) (hms : ∀ y ∈ ms, y.1.ok) (hn : ms.length ≤ 8) (H : St S w0 (BoxR b A c ms many ++ R) w1) :
    Calls Try.prog 11 #[vP b 0, vI id] w1 fun e w' => ∃ A' c' ms', e = .returned (vN (ackM (mids ms) many id).1) ∧ mids ms' = (ackM (mids ms) many id).2 ∧ (∀ y ∈ ms', y ∈ ms) ∧ St S w0 (BoxR b A' c' ms' many ++ R) w' := by
  unfold ackM
  by_cases h1 : id < 1 ∨ (many : Int) < id
  · rw [if_pos h1]
    by_cases h2 : id < 1
    · exact (ack_low id hw hms hn H.own h2).mono fun e w' h => ⟨A, c, ms, h.1, rfl, fun y h => h, H.swap h.2⟩
    · exact (ack_high id hw hms hn H.own (by omega) (by omega)).mono fun e w' h => ⟨A, c, ms, h.1, rfl, fun y h => h, H.swap h.2⟩
  · rw [if_neg h1]
    by_cases h2 : id ∈ (mids ms).map Mm.id
    · rw [if_pos h2]
      obtain ⟨j, hj, hl, he⟩ := at_of h2
      exact (ack_ok id hw hms hn H.own j (by omega) (by omega) hj hl).mono fun e w' ⟨h, A', c', h3⟩ => ⟨A', c', _, h, he, fun y hy => List.mem_of_mem_eraseIdx hy, H.swap h3⟩
    · rw [if_neg h2]
      exact (ack_old id hw hms hn H.own (by omega) (by omega) (at_no h2)).mono fun e w' h => ⟨A, c, ms, h.1, rfl, fun y h => h, H.swap h.2⟩
theorem rack_calls {S : List Nat} {w0 w1 : World} {br k many : Nat} {B : Option Addr} {r : Res} {ms : List (Mm × Pl)} {R : List Res} (id : Int) (hw : (Lit.int .i64 id).wf = true) (hms : ∀ y ∈ ms, y.1.ok) (hn : ms.length ≤ 8) (hr : ∀ w'', r.ok w'' → SlAt w'' B (mailsC ms)) (hk : ms.length ≤ k) (H : St S w0 (DocB br B k r ms many ++ R) w1) :
    Calls Try.prog 12 #[vP br 0, vI id] w1 fun e w' => ∃ B' k' r' ms', e = .returned (vN (ackM (mids ms) many id).1) ∧ mids ms' = (ackM (mids ms) many id).2 ∧ (∀ y ∈ ms', y ∈ ms) ∧ (∀ w'', r'.ok w'' → SlAt w'' B' (mailsC ms')) ∧ ms'.length ≤ k' ∧ St S w0 (DocB br B' k' r' ms' many ++ R) w' := by
  unfold ackM
  by_cases h1 : id < 1 ∨ (many : Int) < id
  · rw [if_pos h1]
    by_cases h2 : id < 1
    · exact (rack_low id hw hms hn hr hk H.own h2).mono fun e w' h => ⟨B, k, r, ms, h.1, rfl, fun y h => h, hr, hk, H.swap h.2⟩
    · exact (rack_high id hw hms hn hr hk H.own (by omega) (by omega)).mono fun e w' h => ⟨B, k, r, ms, h.1, rfl, fun y h => h, hr, hk, H.swap h.2⟩
  · rw [if_neg h1]
    by_cases h2 : id ∈ (mids ms).map Mm.id
    · rw [if_pos h2]
      obtain ⟨j, hj, hl, he⟩ := at_of h2
      exact (rack_ok id hw hms hn hr hk H.own j (by omega) (by omega) hj hl).mono fun e w' ⟨h, B', k', r', h3, h4, h5⟩ => ⟨B', k', r', _, h, he, fun y hy => List.mem_of_mem_eraseIdx hy, h3, h4, H.swap h5⟩
    · rw [if_neg h2]
      exact (rack_old id hw hms hn hr hk H.own (by omega) (by omega) (at_no h2)).mono fun e w' h => ⟨B, k, r, ms, h.1, rfl, fun y h => h, hr, hk, H.swap h.2⟩
end Go.Proofs.Ytadaihpeionniaa
end
section
namespace Go.Proofs.Ytadaihpeionniaa
open Go Go.RowKit Go.PBYtadaihpeionniaa
set_option linter.unusedVariables false
set_option linter.unusedSimpArgs false
set_option maxRecDepth 10000
set_option maxHeartbeats 4000000 in
theorem qack_high (w : World) (b c many : Nat) (A : Option Addr) (id : Int) (hS : SlAt w (some ⟨b, 0, none⟩) [.slice A 0 c, vN many]) (h : 1 ≤ id) (h2 : (many : Int) < id) :
    Calls Try.prog 11 #[vP b 0, vI id] w fun e w' => e = .returned (vI 7) ∧ Kept [] w w' := by
  refine enter (n := 47) (R := fun e L' => e = .returned (vI 7)) [vP b 0, vI id] Try.func11 rfl rfl rfl (St.refl w) ?_ (fun e w' L' h H => ⟨h, H.kept⟩)
  refine VC_seq ?_
  refine VC_region ?_
  refine vl_v (q_assign rfl) rfl ?_
  refine vl_nil ?_
  refine (th_n ?_)
  refine VC_scope ?_
  refine VC_seq ?_
  refine VC_seq ?_
  refine VC_region ?_
  refine vl_v (q_move rfl) rfl ?_
  refine vl_v (q_as (v := .bool false) (q_lss_k (q := 1) Try.underlying3 rfl rfl) (by simp; omega)) rfl ?_
  refine vl_v (q_move rfl) rfl ?_
  refine vl_vg rfl (q_move rfl) rfl ?_
  refine vl_vg rfl (q_move rfl) rfl ?_
  refine vl_vg rfl (q_nilck rfl) rfl ?_
  refine vl_vg rfl (q_fldA fo57_1 (by decide) rfl rfl) rfl ?_
  refine vl_vg rfl (q_loadR (ad := ⟨b, 0, none⟩) (j := 1) Try.underlying3 rfl rfl (Reads.old hS) rfl) rfl ?_
  refine vl_vg rfl (q_as (v := .bool true) (q_gtr_k Try.underlying3 rfl rfl) (by simp; omega)) rfl ?_
  refine vl_v (q_pickF rfl rfl) rfl ?_
  refine vl_nil ?_
  refine (th_n ?_)
  refine VC_yes (rfl) ?_
  refine VC_seq ?_
  refine VC_region ?_
  refine vl_v (q_assign rfl) rfl ?_
  refine vl_nil ?_
  refine (th_n ?_)
  refine VC_ret ?_
  refine (th_r (sc_r ?_))
  refine ⟨_, res1 rfl rfl, ?_⟩
  exact rfl
set_option maxHeartbeats 4000000 in
theorem qack_old (w : World) (b c many : Nat) (A : Option Addr) (id : Int) (hS : SlAt w (some ⟨b, 0, none⟩) [.slice A 0 c, vN many]) (h : 1 ≤ id) (h2 : id ≤ (many : Int)) :
    Calls Try.prog 11 #[vP b 0, vI id] w fun e w' => e = .returned (vI 5) ∧ Kept [] w w' := by
  refine enter (n := 47) (R := fun e L' => e = .returned (vI 5)) [vP b 0, vI id] Try.func11 rfl rfl rfl (St.refl w) ?_ (fun e w' L' h H => ⟨h, H.kept⟩)
  refine VC_seq ?_
  refine VC_region ?_
  refine vl_v (q_assign rfl) rfl ?_
  refine vl_nil ?_
  refine (th_n ?_)
  refine VC_scope ?_
  refine VC_seq ?_
  refine VC_seq ?_
  refine VC_region ?_
  refine vl_v (q_move rfl) rfl ?_
  refine vl_v (q_as (v := .bool false) (q_lss_k (q := 1) Try.underlying3 rfl rfl) (by simp; omega)) rfl ?_
  refine vl_v (q_move rfl) rfl ?_
  refine vl_vg rfl (q_move rfl) rfl ?_
  refine vl_vg rfl (q_move rfl) rfl ?_
  refine vl_vg rfl (q_nilck rfl) rfl ?_
  refine vl_vg rfl (q_fldA fo57_1 (by decide) rfl rfl) rfl ?_
  refine vl_vg rfl (q_loadR (ad := ⟨b, 0, none⟩) (j := 1) Try.underlying3 rfl rfl (Reads.old hS) rfl) rfl ?_
  refine vl_vg rfl (q_as (v := .bool false) (q_gtr_k Try.underlying3 rfl rfl) (by simp; omega)) rfl ?_
  refine vl_v (q_pickF rfl rfl) rfl ?_
  refine vl_nil ?_
  refine (th_n ?_)
  refine VC_no (rfl) ?_
  refine VC_skip ?_
  refine (th_n ?_)
  refine VC_seq ?_
  refine VC_region ?_
  refine vl_v (q_assign rfl) rfl ?_
  refine vl_nil ?_
  refine (th_n ?_)
  refine VC_seq ?_
  refine VC_label ?_
  refine (th_n ?_)
  refine VC_seq ?_
  refine VC_seq ?_
  refine VC_region ?_
  refine vl_v (q_move rfl) rfl ?_
  refine vl_v (q_nilck rfl) rfl ?_
  refine vl_v (q_fldA fo57_0 (by decide) rfl rfl) rfl ?_
  refine vl_v (q_loadR (ad := ⟨b, 0, none⟩) (j := 0) Try.underlying46 rfl rfl (Reads.old hS) rfl) rfl ?_
  refine vl_v (q_lenS Try.underlying46 rfl) rfl ?_
  refine vl_v (q_move rfl) rfl ?_
  refine vl_nil ?_
  refine (th_n ?_)
  refine VC_block ?_
  refine VC_loop (ι := Nat) (fun i => i ≤ 0) (fun i => [(0, vP b 0), (1, vI id), (5, vI (-1)), (21, .slice A 0 c), (22, vN 0), (23, vN i)]) (fun i => []) (fun i => 0) 0 (by omega) (Sub.cons (s := 0) rfl (Sub.cons (s := 1) rfl (Sub.cons (s := 5) rfl (Sub.cons (s := 21) rfl (Sub.cons (s := 22) rfl (Sub.cons (s := 23) rfl (Sub.nil _))))))) (fun w H => H) ?_
  rintro i hp
  refine VC_seq ?_
  refine VC_region ?_
  refine vl_v (q_lss_n Try.underlying3 rfl rfl) rfl ?_
  refine vl_nil ?_
  refine (th_n ?_)
  refine VC_seq ?_
  refine VC_cond rfl (fun ht24 => ?_) (fun ht24 => ?_)
  · skip
    exfalso; have ht24 := of_decide_eq_true ht24; omega
  · skip
    refine VC_exit ?_
    refine (th_x (th_x (bl_xs (th_n ?_))))
    refine VC_seq ?_
    refine VC_seq ?_
    refine VC_region ?_
    refine vl_v (q_move rfl) rfl ?_
    refine vl_v (q_as (v := .bool true) (q_lss_k (q := 0) Try.underlying3 rfl rfl) (by simp)) rfl ?_
    refine vl_nil ?_
    refine (th_n ?_)
    refine VC_yes (rfl) ?_
    refine VC_seq ?_
    refine VC_region ?_
    refine vl_v (q_assign rfl) rfl ?_
    refine vl_nil ?_
    refine (th_n ?_)
    refine VC_ret ?_
    refine (th_r (sc_r ?_))
    refine ⟨_, res1 rfl rfl, ?_⟩
    exact rfl
end Go.Proofs.Ytadaihpeionniaa
end
section
namespace Go.PBYtadaihpeionniaa
open Go Go.RowKit
set_option linter.unusedVariables false
section
variable {P : Program} {n : Nat} {S : List Nat} {w0 : World} {env : Env} {L : List Res}
variable {d : Tmp} {ty : TypeId} {pos : String} {af : Array Edge} {g : Option (Nat × Bool)}
theorem run_eqPN {T e : TypeId} {ad : Addr} (hT : P.underlying T = some (.pointer e)) (w : World) : (Op.equal T (.pointer (some ad)) (.pointer none)).run P w = .ok false w := by
  show (Op.equalIn (9999 + 1) T (.pointer (some ad)) (.pointer none)).run P w = _
  unfold Op.equalIn
  simp [run_underlying hT]
theorem q_eqPN {T T' e : TypeId} {x y : Operand} {ad : Addr} (hT : P.underlying T = some (.pointer e)) (hx : evalE env x = some (.pointer (some ad))) (hy : evalE env y = some (.pointer none)) :
    QT P n S w0 { dst := some d, op := .binOp .eql T x y T', type := ty, pos, after := af, guard := g } env L (.val (.bool false)) :=
  q_bin hx hy fun w => by
    have h2 : eqGuard .eql T x y (.pointer (some ad)) (.pointer none) = pure () := rfl
    have h3 : binOp .eql T (.pointer (some ad)) (.pointer none) = (do pure (.bool (← Op.equal T (.pointer (some ad)) (.pointer none)))) := rfl
    rw [h2, h3]
    simp [run_eqPN hT]
end
end Go.PBYtadaihpeionniaa
end
