/- What the functions of package head do, fourth part: the head of any bytes, and what it is given up for. Conditions: lengths that memory bears. -/
import Derived.Test.YtpjjledbmfmbiaaC12c
namespace Go.Proofs.Ytpjjledbmfmbiaa
open Go.RowKit Go.PBYtpjjledbmfmbiaa
set_option linter.unusedVariables false
set_option linter.unusedSimpArgs false
set_option maxRecDepth 10000

theorem zHeadC_eq : bys (List.replicate 32 0) ++ [Value.int .i64 0] ++ [Value.int .i64 0] = zHeadC := by unfold zHeadC headC; rw [List.append_assoc]; rfl
theorem zHeadC_length : zHeadC.length = 34 := headC_length (by simp) _ _
theorem zHeadC_one : ∀ u ∈ zHeadC, u.oneCell' = true := app_one (bys_one _) (one_all rfl)
def rd1Post (w0 : World) (A : Option Addr) (m c : Nat) (r : Option Nat) (cs : List Value) : Prop :=
  ∀ (b5 b9 b4 : Nat) (L : List Res) (w : World), St [] w0 (.blk b5 46 [vP b9 0] :: .blk b9 48 [.slice A m c] :: .blk b4 25 zHeadC :: L) w →
    Calls Try.prog 23 #[vP b5 0, vP b4 0] w fun e w' => e = gaveUp r ∧ ∃ v, St [] w0 (rdL b5 b9 b4 L (v, cs)) w'
theorem read_wrong {w0 : World} {A : Option Addr} {m c : Nat} {r : Option Nat} {cs : List Value} (hG : rd1Post w0 A m c r cs) (b5 b9 b4 : Nat) (L : List Res) (w : World) (H : St [] w0 (.blk b5 46 [vP b9 0] :: .blk b9 48 [.slice A m c] :: .blk b4 25 zHeadC :: L) w) :
    Calls Try.prog 22 #[.func (.func 23) #[] [vP b5 0, vP b4 0].toArray] w (fun e w' => e = .returned (vN (r.getD 0)) ∧ ∃ x, St [] w0 (rdL b5 b9 b4 L (x, cs)) w') :=
  wrong_calls (L1 := fun x => rdL b5 b9 b4 L (x, cs)) r Try.func23 rfl rfl (fun b w2 H2 => (hG b5 b9 b4 (.blk b 28 [vI 0] :: L) w2 (H2.perm (mv3 _ _ _ _ _))).mono (fun e w' ⟨h1, v, h2⟩ => ⟨h1, v, h2.perm (mv3 _ _ _ _ _).symm⟩)) w H
theorem read_none {w : World} {A : Option Addr} {m c : Nat} {cs : List Value} (hl : cs.length = 34) (ho : ∀ u ∈ cs, u.oneCell' = true) (hG : rd1Post w A m c none cs) :
    Calls Try.prog 11 #[.slice A m c] w fun e w' => e = .returned (.tuple #[.agg cs.toArray, vN 0]) ∧ Kept [] w w' := by
  have hz := zHeadC_length
  refine enter (n := 17) (R := fun e M => e = .returned (.tuple #[.agg cs.toArray, vN 0])) [.slice A m c] Try.func11 rfl rfl rfl (St.refl w) ?_ (fun e w' L' h H => ⟨h, H.kept⟩)
  refine VC_seq ?_
  refine VC_region ?_
  refine l_allocA zr25 rfl ?_
  intro b2
  refine vl_v (q_assign rfl) rfl ?_
  refine vl_nil ?_
  refine (th_n ?_)
  refine VC_seq ?_
  refine VC_region ?_
  refine l_allocA zr25 rfl ?_
  intro b4
  refine vl_nil ?_
  refine (th_n ?_)
  refine VC_seq ?_
  refine VC_region ?_
  refine vl_v (q_move rfl) rfl ?_
  refine vl_v (q_buildS (tot := 1) (sizes := [1]) (c' := [.slice A m c]) (by kernel_rfl) rfl rfl rfl rfl rfl rfl) rfl ?_
  refine l_boxA rfl rfl ?_
  intro b9
  refine l_alloc1 zr46 rfl rfl ?_
  intro b5
  refine l_store1 0 rfl rfl rfl sz46 rfl (by first | decide | (simp; done) | first | assumption | omega) ?_
  simp only [List.set_cons_zero, List.set_cons_succ]
  refine vl_nil ?_
  refine (th_n ?_)
  refine VC_seq ?_
  refine VC_region ?_
  rw [zHeadC_eq]
  refine vl_v (q_makeFunc rfl) rfl ?_
  refine l_callF Try.func22 rfl rfl rfl (fun w1 H1 => read_wrong hG _ _ _ _ w1 H1) rfl ?_
  intro x11
  refine vl_v (q_assign rfl) rfl ?_
  refine vl_nil ?_
  refine (th_n ?_)
  refine VC_seq ?_
  refine VC_seq ?_
  refine VC_region ?_
  refine vl_v (q_move rfl) rfl ?_
  first | (refine vl_v (q_neq_n (q := 0) Try.underlying28 rfl rfl) rfl ?_) | (refine vl_v (q_neq_k Try.underlying28 rfl rfl) rfl ?_)
  refine vl_nil ?_
  refine (th_n ?_)
  refine VC_no (rfl) ?_
  refine VC_skip ?_
  refine (th_n ?_)
  refine VC_seq ?_
  refine VC_region ?_
  first | (refine vl_v (q_loads 2 Try.underlying25 rfl rfl rfl sz25 (by first | assumption | omega)) rfl ?_) | (refine vl_v (q_loadsAt 2 Try.underlying25 rfl rfl rfl sz25 (by rfl) (by first | assumption | omega)) rfl ?_)
  refine l_storeA 3 rfl rfl rfl sz25 (by first | assumption | omega) (by first | (with_reducible first | exact bys_one _ | exact u32s_one _ | exact u64s_one _ | exact i64s_one _ | exact n64s_one _ | assumption) | exact bys_one _ | exact u32s_one _ | exact u64s_one _ | exact i64s_one _ | exact one_all rfl | (refine app_one ?_ ?_ <;> first | exact bys_one _ | exact one_all rfl | (simp; done))) (by first | assumption | omega) ?_
  simp only [List.set_cons_zero, List.set_cons_succ]
  refine vl_v (q_assign rfl) rfl ?_
  refine vl_nil ?_
  refine (th_n ?_)
  refine VC_ret ?_
  refine ⟨_, resC2 3 rfl Try.underlying25 rfl rfl rfl sz25 (by first | assumption | omega) rfl, ?_⟩
  exact rfl
theorem read_some {w : World} {A : Option Addr} {m c k : Nat} {cs : List Value} (hk : k ≠ 0) (hG : rd1Post w A m c (some k) cs) :
    Calls Try.prog 11 #[.slice A m c] w fun e w' => e = .returned (.tuple #[.agg zHeadC.toArray, vN k]) ∧ Kept [] w w' := by
  have hz := zHeadC_length
  have hzo := zHeadC_one
  refine enter (n := 17) (R := fun e M => e = .returned (.tuple #[.agg zHeadC.toArray, vN k])) [.slice A m c] Try.func11 rfl rfl rfl (St.refl w) ?_ (fun e w' L' h H => ⟨h, H.kept⟩)
  refine VC_seq ?_
  refine VC_region ?_
  refine l_allocA zr25 rfl ?_
  intro b2
  refine vl_v (q_assign rfl) rfl ?_
  refine vl_nil ?_
  refine (th_n ?_)
  refine VC_seq ?_
  refine VC_region ?_
  refine l_allocA zr25 rfl ?_
  intro b4
  refine vl_nil ?_
  refine (th_n ?_)
  refine VC_seq ?_
  refine VC_region ?_
  refine vl_v (q_move rfl) rfl ?_
  refine vl_v (q_buildS (tot := 1) (sizes := [1]) (c' := [.slice A m c]) (by kernel_rfl) rfl rfl rfl rfl rfl rfl) rfl ?_
  refine l_boxA rfl rfl ?_
  intro b9
  refine l_alloc1 zr46 rfl rfl ?_
  intro b5
  refine l_store1 0 rfl rfl rfl sz46 rfl (by first | decide | (simp; done) | first | assumption | omega | (rw [zHeadC_eq]; assumption)) ?_
  simp only [List.set_cons_zero, List.set_cons_succ]
  refine vl_nil ?_
  refine (th_n ?_)
  refine VC_seq ?_
  refine VC_region ?_
  rw [zHeadC_eq]
  refine vl_v (q_makeFunc rfl) rfl ?_
  refine l_callF Try.func22 rfl rfl rfl (fun w1 H1 => read_wrong hG _ _ _ _ w1 H1) rfl ?_
  intro x11
  refine vl_v (q_assign rfl) rfl ?_
  refine vl_nil ?_
  refine (th_n ?_)
  refine VC_seq ?_
  refine VC_seq ?_
  refine VC_region ?_
  refine vl_v (q_move rfl) rfl ?_
  refine vl_v (q_as (v := .bool true) (q_neq_n (q := 0) Try.underlying28 rfl rfl) (congrArg Value.bool (by simpa using hk))) rfl ?_
  refine vl_nil ?_
  refine (th_n ?_)
  refine VC_yes (rfl) ?_
  refine VC_seq ?_
  refine VC_region ?_
  refine vl_v (q_build (c' := zHeadC) rfl (by kernel_rfl)) rfl ?_
  refine vl_v (q_move rfl) rfl ?_
  refine l_storeA 3 rfl rfl rfl sz25 (by first | assumption | omega | (rw [zHeadC_eq]; assumption)) (by first | (with_reducible first | exact bys_one _ | exact u32s_one _ | exact u64s_one _ | exact i64s_one _ | exact n64s_one _ | assumption) | exact bys_one _ | exact u32s_one _ | exact u64s_one _ | exact i64s_one _ | exact one_all rfl | (refine app_one ?_ ?_ <;> first | exact bys_one _ | exact one_all rfl | (simp; done))) (by first | assumption | omega | (rw [zHeadC_eq]; assumption)) ?_
  simp only [List.set_cons_zero, List.set_cons_succ]
  refine vl_v (q_assign rfl) rfl ?_
  refine vl_nil ?_
  refine (th_n ?_)
  refine VC_ret ?_
  refine (th_r ?_)
  refine ⟨_, resC2 3 rfl Try.underlying25 rfl rfl rfl sz25 (by first | assumption | omega | (rw [zHeadC_eq]; assumption)) rfl, ?_⟩
  exact rfl
/-- the head of any bytes -/
theorem read_calls (l : List UInt8) (A : Option Addr) (m c : Nat) (hm : m = l.length) (hc : m ≤ c) (w : World) (hA : SlAt w A (bys l)) :
    Calls Try.prog 11 #[.slice A m c] w fun e w' => e = .returned (.tuple #[.agg (rdC l).toArray, vN (rdE l)]) ∧ Kept [] w w' := by
  unfold rdC rdE
  by_cases h40 : l.length < 40
  · rw [if_pos h40, if_pos h40]
    exact read_some (k := 3) (by omega) (fun b5 b9 b4 L w1 H1 => read1_short b5 b9 b4 l A m c zHeadC hm hc (by omega) hA w1 H1)
  rw [if_neg h40, if_neg h40]
  by_cases hr : rdOk l = true
  · rw [if_pos hr, if_pos hr]
    unfold rdOk at hr
    rw [Bool.and_eq_true, decide_eq_true_iff] at hr
    have hl : (rdP l).length = 32 := by rw [rdP]; simp; omega
    exact read_none (headC_length hl _ _) (app_one (bys_one _) (one_all rfl)) (fun b5 b9 b4 L w1 H1 => read1_ok b5 b9 b4 l _ A m c _ _ zHeadC zHeadC_length hm hc (by omega) hA rfl rfl rfl hr.1 w1 H1)
  · rw [if_neg hr, if_neg hr]
    refine read_some (k := 2) (by omega) (fun b5 b9 b4 L w1 H1 => read1_form b5 b9 b4 l _ A m c _ _ zHeadC zHeadC_length hm hc (by omega) hA rfl rfl rfl ?_ w1 H1)
    unfold rdOk at hr
    rw [Bool.and_eq_true, decide_eq_true_iff] at hr
    cases h : rightB (rdM l) (rdN l) with
    | false => exact .inl rfl
    | true => exact .inr ⟨rfl, by have : ¬ l.length = 40 := fun h' => hr ⟨h, h'⟩; omega⟩
end Go.Proofs.Ytpjjledbmfmbiaa
