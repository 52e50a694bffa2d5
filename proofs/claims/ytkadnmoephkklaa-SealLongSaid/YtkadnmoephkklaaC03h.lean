/- The rows of the document's own blake: ten rows of sixteen numbers, each in memory of its own. No condition. -/
import Derived.Test.YtkadnmoephkklaaC03g
import Derived.Test.YtkadnmoephkklaaS03c
import Derived.Test.YtkadnmoephkklaaR01
namespace Go.Proofs.Ytkadnmoephkklaa
open Go.RowKit Go.PBYtkadnmoephkklaa
set_option linter.unusedVariables false
set_option linter.unusedSimpArgs false
set_option maxRecDepth 10000

def rowV (bf : Nat → Nat) (r : Nat) : Value := .slice (some ⟨bf r, 0, none⟩) 16 16
def rvals (bf : Nat → Nat) : List Value := (List.range 10).map (rowV bf)
def rowsR (bf : Nat → Nat) : List Res := (List.range 10).map fun k => .row 3 1 (rowV bf (9 - k)) 16 (i64s (rints (9 - k)))
theorem rowsR_at (bf : Nat → Nat) (r : Nat) (h : r < 10) : (rowsR bf)[9 - r]? = some (.row 3 1 (rowV bf r) 16 (i64s (rints r))) := by
  rw [rowsR, List.getElem?_map, List.getElem?_range (by omega)]
  simp only [Option.map_some, show 9 - (9 - r) = r by omega]
theorem rvals_length (bf : Nat → Nat) : (rvals bf).length = 10 := by simp [rvals]
theorem rvals_at (bf : Nat → Nat) (r : Nat) (h : r < 10) : (rvals bf)[r]? = some (rowV bf r) := by
  rw [rvals, List.getElem?_map, List.getElem?_range h]; rfl
theorem rowsRd {S : List Nat} {w0 : World} (bf : Nat → Nat) (r : Nat) (h : r < 10) (a b c : Res) : Reads S w0 (a :: b :: c :: rowsR bf) (some ⟨bf r, 0, none⟩) (i64s (rints r)) :=
  Reads.row (9 - r + 3) (by simp only [List.getElem?_cons_succ]; exact rowsR_at bf r h)
set_option maxHeartbeats 1000000 in
theorem rrows_calls (w : World) :
    Calls Try.prog 71 #[] w fun e w' => ∃ v bf, e = .returned v ∧ St [] w (.row 103 1 v 10 (rvals bf) :: rowsR bf) w' := by
  refine enter (n := 12) (R := fun e L => ∃ v bf, e = .returned v ∧ L = .row 103 1 v 10 (rvals bf) :: rowsR bf) [] Try.func71 rfl rfl rfl (St.refl w) ?_ (fun e w' L' ⟨v, bf, h1, h2⟩ H => ⟨v, bf, h1, h2 ▸ H⟩)
  refine VC_seq ?_
  refine VC_region ?_
  refine vl_v (q_assign rfl) rfl ?_
  refine vl_nil ?_
  refine (th_n ?_)
  refine VC_seq ?_
  refine VC_region ?_
  refine l_litA (cs := i64s [(0), (1), (2), (3), (4), (5), (6), (7), (8), (9), (10), (11), (12), (13), (14), (15)]) Try.underlying103 in3 (by decide) rfl rfl rfl rfl (by first | (with_reducible first | exact bys_one _ | exact u32s_one _ | exact u64s_one _ | exact i64s_one _ | exact n64s_one _ | assumption) | exact bys_one _ | exact u32s_one _ | exact u64s_one _ | exact i64s_one _ | exact one_all rfl | (refine app_one ?_ ?_ <;> first | exact bys_one _ | (simp; done))) rfl rfl ?_
  intro b1
  refine l_litA (cs := i64s [(14), (10), (4), (8), (9), (15), (13), (6), (1), (12), (0), (2), (11), (7), (5), (3)]) Try.underlying103 in3 (by decide) rfl rfl rfl rfl (by first | (with_reducible first | exact bys_one _ | exact u32s_one _ | exact u64s_one _ | exact i64s_one _ | exact n64s_one _ | assumption) | exact bys_one _ | exact u32s_one _ | exact u64s_one _ | exact i64s_one _ | exact one_all rfl | (refine app_one ?_ ?_ <;> first | exact bys_one _ | (simp; done))) rfl rfl ?_
  intro b2
  refine l_litA (cs := i64s [(11), (8), (12), (0), (5), (2), (15), (13), (10), (14), (3), (6), (7), (1), (9), (4)]) Try.underlying103 in3 (by decide) rfl rfl rfl rfl (by first | (with_reducible first | exact bys_one _ | exact u32s_one _ | exact u64s_one _ | exact i64s_one _ | exact n64s_one _ | assumption) | exact bys_one _ | exact u32s_one _ | exact u64s_one _ | exact i64s_one _ | exact one_all rfl | (refine app_one ?_ ?_ <;> first | exact bys_one _ | (simp; done))) rfl rfl ?_
  intro b3
  refine l_litA (cs := i64s [(7), (9), (3), (1), (13), (12), (11), (14), (2), (6), (5), (10), (4), (0), (15), (8)]) Try.underlying103 in3 (by decide) rfl rfl rfl rfl (by first | (with_reducible first | exact bys_one _ | exact u32s_one _ | exact u64s_one _ | exact i64s_one _ | exact n64s_one _ | assumption) | exact bys_one _ | exact u32s_one _ | exact u64s_one _ | exact i64s_one _ | exact one_all rfl | (refine app_one ?_ ?_ <;> first | exact bys_one _ | (simp; done))) rfl rfl ?_
  intro b4
  refine l_litA (cs := i64s [(9), (0), (5), (7), (2), (4), (10), (15), (14), (1), (11), (12), (6), (8), (3), (13)]) Try.underlying103 in3 (by decide) rfl rfl rfl rfl (by first | (with_reducible first | exact bys_one _ | exact u32s_one _ | exact u64s_one _ | exact i64s_one _ | exact n64s_one _ | assumption) | exact bys_one _ | exact u32s_one _ | exact u64s_one _ | exact i64s_one _ | exact one_all rfl | (refine app_one ?_ ?_ <;> first | exact bys_one _ | (simp; done))) rfl rfl ?_
  intro b5
  refine l_litA (cs := i64s [(2), (12), (6), (10), (0), (11), (8), (3), (4), (13), (7), (5), (15), (14), (1), (9)]) Try.underlying103 in3 (by decide) rfl rfl rfl rfl (by first | (with_reducible first | exact bys_one _ | exact u32s_one _ | exact u64s_one _ | exact i64s_one _ | exact n64s_one _ | assumption) | exact bys_one _ | exact u32s_one _ | exact u64s_one _ | exact i64s_one _ | exact one_all rfl | (refine app_one ?_ ?_ <;> first | exact bys_one _ | (simp; done))) rfl rfl ?_
  intro b6
  refine l_litA (cs := i64s [(12), (5), (1), (15), (14), (13), (4), (10), (0), (7), (6), (3), (9), (2), (8), (11)]) Try.underlying103 in3 (by decide) rfl rfl rfl rfl (by first | (with_reducible first | exact bys_one _ | exact u32s_one _ | exact u64s_one _ | exact i64s_one _ | exact n64s_one _ | assumption) | exact bys_one _ | exact u32s_one _ | exact u64s_one _ | exact i64s_one _ | exact one_all rfl | (refine app_one ?_ ?_ <;> first | exact bys_one _ | (simp; done))) rfl rfl ?_
  intro b7
  refine l_litA (cs := i64s [(13), (11), (7), (14), (12), (1), (3), (9), (5), (0), (15), (4), (8), (6), (2), (10)]) Try.underlying103 in3 (by decide) rfl rfl rfl rfl (by first | (with_reducible first | exact bys_one _ | exact u32s_one _ | exact u64s_one _ | exact i64s_one _ | exact n64s_one _ | assumption) | exact bys_one _ | exact u32s_one _ | exact u64s_one _ | exact i64s_one _ | exact one_all rfl | (refine app_one ?_ ?_ <;> first | exact bys_one _ | (simp; done))) rfl rfl ?_
  intro b8
  refine l_litA (cs := i64s [(6), (15), (14), (9), (11), (3), (0), (8), (12), (2), (13), (7), (1), (4), (10), (5)]) Try.underlying103 in3 (by decide) rfl rfl rfl rfl (by first | (with_reducible first | exact bys_one _ | exact u32s_one _ | exact u64s_one _ | exact i64s_one _ | exact n64s_one _ | assumption) | exact bys_one _ | exact u32s_one _ | exact u64s_one _ | exact i64s_one _ | exact one_all rfl | (refine app_one ?_ ?_ <;> first | exact bys_one _ | (simp; done))) rfl rfl ?_
  intro b9
  refine l_litA (cs := i64s [(10), (2), (8), (4), (7), (6), (1), (5), (15), (11), (9), (14), (3), (12), (13), (0)]) Try.underlying103 in3 (by decide) rfl rfl rfl rfl (by first | (with_reducible first | exact bys_one _ | exact u32s_one _ | exact u64s_one _ | exact i64s_one _ | exact n64s_one _ | assumption) | exact bys_one _ | exact u32s_one _ | exact u64s_one _ | exact i64s_one _ | exact one_all rfl | (refine app_one ?_ ?_ <;> first | exact bys_one _ | (simp; done))) rfl rfl ?_
  intro b10
  refine l_lit Try.underlying101 in103 (by decide) rfl (ps := [(0, _), (1, _), (2, _), (3, _), (4, _), (5, _), (6, _), (7, _), (8, _), (9, _)]) rfl rfl (by simp [Value.oneCell']) rfl ?_
  intro b11
  refine vl_v (q_assign rfl) rfl ?_
  refine vl_nil ?_
  refine (th_n ?_)
  refine VC_ret ?_
  refine ⟨_, res1 rfl rfl, ?_⟩
  exact ⟨_, fun r => ([b1, b2, b3, b4, b5, b6, b7, b8, b9, b10] : List Nat).getD r 0, rfl, rfl⟩
theorem rrows_more {S : List Nat} {w0 : World} {L : List Res} (w : World) (H : St S w0 L w) :
    Calls Try.prog 71 #[] w fun e w' => ∃ v L', e = .returned v ∧ (∃ A c bf, v = .slice A 10 c ∧ 10 ≤ c ∧ L' = L ++ .row 103 1 (.slice A 10 c) 10 (rvals bf) :: rowsR bf) ∧ St S w0 L' w' :=
  (rrows_calls w).mono fun e w' ⟨v, bf, h1, h2⟩ => by
    have hrow : Res.ok w' (.row 103 1 v 10 (rvals bf)) := h2.get (k := 0) rfl
    obtain ⟨A, c, h3, h4, _, _⟩ := Row.slice hrow
    subst h3
    exact ⟨_, _, h1, ⟨A, c, bf, rfl, h4, rfl⟩, H.join h2⟩
theorem rofA (l : List UInt8) (A : Option Addr) (o m r c : Nat) (w : World) (hA : SlAt w A (bys l)) (ho : o + 4 ≤ l.length) (hm : l.length ≤ m) (hr : r = 4) (hc : 4 ≤ c) (hl : l.length ≤ 1000) :
    Calls Try.prog 70 #[.slice (PBYtkadnmoephkklaa.adv A o m 1) r c] w fun e w' => e = .returned (.int .u64 (ofHigh ((l.drop o).take 4).reverse)) ∧ Kept [] w w' := by
  subst hr
  have e1 : ((l.drop o).take 4).length = 4 := by rw [List.length_take, List.length_drop]; omega
  have h := rofLow_calls ((l.drop o).take 4) (PBYtkadnmoephkklaa.adv A o m 1) c w (by
    have := (hA.adv (l := o) (m := m) (sz := 1) (by rw [bys_length, Nat.mul_one]; exact hm)).take 4
    rwa [Nat.mul_one, bys_drop, bys_take] at this) (by rw [e1]; exact hc) (by rw [e1]; omega)
  rw [e1, List.take_of_length_le (l := (l.drop o).take 4) (by rw [e1]; omega)] at h
  exact h
end Go.Proofs.Ytkadnmoephkklaa
