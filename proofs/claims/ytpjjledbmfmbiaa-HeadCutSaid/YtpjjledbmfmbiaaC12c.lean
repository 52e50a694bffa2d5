/- What the functions of package head do, third part: the head of any bytes. Conditions: lengths that memory bears. -/
import Derived.Test.YtpjjledbmfmbiaaC12b
namespace Go.Proofs.Ytpjjledbmfmbiaa
open Go.RowKit Go.PBYtpjjledbmfmbiaa
set_option linter.unusedVariables false
set_option linter.unusedSimpArgs false
set_option maxRecDepth 10000

theorem mv3 {α : Type} (e a b c : α) (r : List α) : (e :: a :: b :: c :: r).Perm (a :: b :: c :: e :: r) := (List.perm_middle (l₁ := [a, b, c])).symm
/-- what the closure leaves -/
abbrev rdL (b5 b9 b4 : Nat) (L : List Res) (x : Value × List Value) : List Res := .blk b5 46 [vP b9 0] :: .blk b9 48 [x.1] :: .blk b4 25 x.2 :: L
theorem read1_ok {w0 : World} {L : List Res} (b5 b9 b4 : Nat) (l p : List UInt8) (A : Option Addr) (m c x y : Nat) (h0 : List Value) (hh : h0.length = 34) (hm : m = l.length) (hc : m ≤ c) (hn : m = 40) (hA : SlAt w0 A (bys l)) (hp : rdP l = p) (hx : rdM l = x) (hy : rdN l = y) (hr : rightB x y = true) (w : World) (H : St [] w0 (.blk b5 46 [vP b9 0] :: .blk b9 48 [.slice A m c] :: .blk b4 25 h0 :: L) w) :
    Calls Try.prog 23 #[vP b5 0, vP b4 0] w fun e w' => e = gaveUp none ∧ ∃ v, St [] w0 (rdL b5 b9 b4 L (v, headC p x y)) w' := by
  have hl : p.length = 32 := by rw [← hp, rdP]; simp; omega
  have hl1 : (headC p x y).length = 34 := headC_length hl _ _
  have o1 : ∀ u ∈ headC p x y, u.oneCell' = true := app_one (bys_one _) (one_all rfl)
  refine enter (n := 8) (R := fun e M => e = .returned (.tuple #[]) ∧ ∃ v, M = rdL b5 b9 b4 L (v, headC p x y)) [vP b5 0, vP b4 0] Try.func23 rfl rfl rfl H ?_ (fun e w' L' h H => ⟨h.1, by obtain ⟨_, v, rfl⟩ := h; exact ⟨v, H⟩⟩)
  refine VC_seq ?_
  refine VC_region ?_
  refine vl_v (q_load 0 Try.underlying46 rfl rfl rfl rfl) rfl ?_
  refine l_callE Try.func24 rfl rfl rfl (fun w1 H1 => (head_ok b9 l p A m c x y hm hc (by omega) hA hp hx hy w1 (H1.perm (List.Perm.swap _ _ _))).mono fun e w' h => ⟨h.1, h.2.perm (List.Perm.swap _ _ _)⟩) rfl ?_
  refine l_storeA 2 rfl rfl rfl sz25 (by first | assumption | omega) (by first | (with_reducible first | exact bys_one _ | exact u32s_one _ | exact u64s_one _ | exact i64s_one _ | exact n64s_one _ | assumption) | exact bys_one _ | exact u32s_one _ | exact u64s_one _ | exact i64s_one _ | exact one_all rfl | (refine app_one ?_ ?_ <;> first | exact bys_one _ | exact one_all rfl | (simp; done))) (by first | assumption | omega) ?_
  simp only [List.set_cons_zero, List.set_cons_succ]
  refine vl_nil ?_
  refine (th_n ?_)
  refine VC_drawV 3 [[], [], [1], [0, 2]] [[], [], [1], [0, 1, 2]] rfl (by kernel_rfl) ?_
  refine qv_v (q_load 0 Try.underlying46 rfl rfl rfl rfl) ?_
  first | (refine qv_v (q_loads 2 Try.underlying25 rfl rfl rfl sz25 (by first | assumption | omega)) ?_) | (refine qv_v (q_loadsAt 2 Try.underlying25 rfl rfl rfl sz25 (by rfl) (by first | assumption | omega)) ?_)
  refine qv_v (q_as (v := .bool true) (q_callV Try.func18 rfl rfl rfl (fun w1 H1 => hright_calls p x y hl w1)) (by rw [hr])) ?_
  refine qv_end ?_
  refine VL.keep (Sub.cons (s := 0) rfl (Sub.cons (s := 1) rfl (Sub.cons (s := 4) rfl (Sub.cons (s := 6) rfl (Sub.nil _))))) ?_
  refine l_callE Try.func25 rfl rfl rfl (fun w1 H1 => (must_ok b9 _ _ _ (by omega) w1 (H1.perm (List.Perm.swap _ _ _))).mono fun e w' h => ⟨h.1, h.2.perm (List.Perm.swap _ _ _)⟩) rfl ?_
  refine vl_nil ?_
  refine (qn_n ?_)
  refine ⟨_, res0 rfl, ?_⟩
  exact ⟨rfl, _, rfl⟩
theorem read1_short {w0 : World} {L : List Res} (b5 b9 b4 : Nat) (l : List UInt8) (A : Option Addr) (m c : Nat) (h0 : List Value) (hm : m = l.length) (hc : m ≤ c) (hn : m < 40) (hA : SlAt w0 A (bys l)) (w : World) (H : St [] w0 (.blk b5 46 [vP b9 0] :: .blk b9 48 [.slice A m c] :: .blk b4 25 h0 :: L) w) :
    Calls Try.prog 23 #[vP b5 0, vP b4 0] w fun e w' => e = gaveUp (some 3) ∧ ∃ v, St [] w0 (rdL b5 b9 b4 L (v, h0)) w' := by
  refine enter (n := 8) (R := fun e M => e = .panicked (chOf 3) ∧ ∃ v, M = rdL b5 b9 b4 L (v, h0)) [vP b5 0, vP b4 0] Try.func23 rfl rfl rfl H ?_ (fun e w' L' h H => ⟨h.1, by obtain ⟨_, v, rfl⟩ := h; exact ⟨v, H⟩⟩)
  refine VC_seq ?_
  refine VC_region ?_
  refine vl_v (q_load 0 Try.underlying46 rfl rfl rfl rfl) rfl ?_
  refine l_callXx Try.func24 rfl rfl rfl (fun w1 H1 => (head_bad b9 l A m c hm hc hn hA w1 (H1.perm (List.Perm.swap _ _ _))).mono fun e w' ⟨g1, v, g2⟩ => ⟨g1, v, g2.perm (List.Perm.swap _ _ _)⟩) ?_
  intro ix
  refine (th_p ?_)
  exact ⟨rfl, ix, rfl⟩
theorem read1_form {w0 : World} {L : List Res} (b5 b9 b4 : Nat) (l p : List UInt8) (A : Option Addr) (m c x y : Nat) (h0 : List Value) (hh : h0.length = 34) (hm : m = l.length) (hc : m ≤ c) (hn : 40 ≤ m) (hA : SlAt w0 A (bys l)) (hp : rdP l = p) (hx : rdM l = x) (hy : rdN l = y) (hr : rightB x y = false ∨ (rightB x y = true ∧ 40 < m)) (w : World) (H : St [] w0 (.blk b5 46 [vP b9 0] :: .blk b9 48 [.slice A m c] :: .blk b4 25 h0 :: L) w) :
    Calls Try.prog 23 #[vP b5 0, vP b4 0] w fun e w' => e = gaveUp (some 2) ∧ ∃ v, St [] w0 (rdL b5 b9 b4 L (v, headC p x y)) w' := by
  have hl : p.length = 32 := by rw [← hp, rdP]; simp; omega
  have hl1 : (headC p x y).length = 34 := headC_length hl _ _
  have o1 : ∀ u ∈ headC p x y, u.oneCell' = true := app_one (bys_one _) (one_all rfl)
  obtain ⟨r, hr0⟩ : ∃ r, rightB x y = r := ⟨_, rfl⟩
  rw [hr0] at hr
  have hmust : ∀ (A : Option Addr) (c : Nat) (L : List Res) (w : World), St [] w0 (.blk b9 48 [.slice A (m - 32 - 4 - 4) c] :: L) w → Calls Try.prog 25 #[vP b9 0, .bool r] w fun e w' => e = .panicked (chOf 2) ∧ St [] w0 (.blk b9 48 [.slice A (m - 32 - 4 - 4) c] :: L) w' := by
    intro A c L w H
    rcases hr with rfl | ⟨rfl, h40⟩
    · exact must_bad1 b9 A _ c w H
    · exact must_bad2 b9 A _ c (by omega) w H
  refine enter (n := 8) (R := fun e M => e = .panicked (chOf 2) ∧ ∃ v, M = rdL b5 b9 b4 L (v, headC p x y)) [vP b5 0, vP b4 0] Try.func23 rfl rfl rfl H ?_ (fun e w' L' h H => ⟨h.1, by obtain ⟨_, v, rfl⟩ := h; exact ⟨v, H⟩⟩)
  refine VC_seq ?_
  refine VC_region ?_
  refine vl_v (q_load 0 Try.underlying46 rfl rfl rfl rfl) rfl ?_
  refine l_callE Try.func24 rfl rfl rfl (fun w1 H1 => (head_ok b9 l p A m c x y hm hc hn hA hp hx hy w1 (H1.perm (List.Perm.swap _ _ _))).mono fun e w' h => ⟨h.1, h.2.perm (List.Perm.swap _ _ _)⟩) rfl ?_
  refine l_storeA 2 rfl rfl rfl sz25 (by first | assumption | omega) (by first | (with_reducible first | exact bys_one _ | exact u32s_one _ | exact u64s_one _ | exact i64s_one _ | exact n64s_one _ | assumption) | exact bys_one _ | exact u32s_one _ | exact u64s_one _ | exact i64s_one _ | exact one_all rfl | (refine app_one ?_ ?_ <;> first | exact bys_one _ | exact one_all rfl | (simp; done))) (by first | assumption | omega) ?_
  simp only [List.set_cons_zero, List.set_cons_succ]
  refine vl_nil ?_
  refine (th_n ?_)
  refine VC_drawV 3 [[], [], [1], [0, 2]] [[], [], [1], [0, 1, 2]] rfl (by kernel_rfl) ?_
  refine qv_v (q_load 0 Try.underlying46 rfl rfl rfl rfl) ?_
  first | (refine qv_v (q_loads 2 Try.underlying25 rfl rfl rfl sz25 (by first | assumption | omega)) ?_) | (refine qv_v (q_loadsAt 2 Try.underlying25 rfl rfl rfl sz25 (by rfl) (by first | assumption | omega)) ?_)
  refine qv_v (q_as (v := .bool r) (q_callV Try.func18 rfl rfl rfl (fun w1 H1 => hright_calls p x y hl w1)) (by rw [hr0])) ?_
  refine qv_end ?_
  refine VL.keep (Sub.cons (s := 0) rfl (Sub.cons (s := 1) rfl (Sub.cons (s := 4) rfl (Sub.cons (s := 6) rfl (Sub.nil _))))) ?_
  refine l_callX Try.func25 rfl rfl rfl (fun w1 H1 => (hmust _ _ _ w1 (H1.perm (List.Perm.swap _ _ _))).mono fun e w' h => ⟨h.1, h.2.perm (List.Perm.swap _ _ _)⟩) ?_
  refine (qn_p fun _ => ?_)
  exact ⟨rfl, _, rfl⟩
end Go.Proofs.Ytpjjledbmfmbiaa
