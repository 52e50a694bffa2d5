/- What the document's function Key of chapter 03 does. Conditions: lengths. -/
import Derived.Test.YtkadnmoephkklaaC03m
namespace Go.Proofs.Ytkadnmoephkklaa
open Go.RowKit Go.PBYtkadnmoephkklaa
set_option linter.unusedVariables false
set_option linter.unusedSimpArgs false
set_option maxRecDepth 10000

/-- thirty-two bytes, the first so many of them copied -/
def cpK (b : List UInt8) : Nat → List UInt8
  | 0 => List.replicate 32 0
  | i + 1 => (cpK b i).set i (b.getD i 0)
theorem cpK_length (b : List UInt8) : ∀ i, (cpK b i).length = 32
  | 0 => by simp [cpK]
  | i + 1 => by rw [cpK, List.length_set, cpK_length b i]
theorem cpK_get (b : List UInt8) : ∀ i j, i ≤ 32 → j < 32 → (cpK b i).getD j 0 = if j < i then b.getD j 0 else 0
  | 0, j, _, hj => by
    rw [if_neg (by omega), cpK, List.getD_eq_getElem?_getD, List.getElem?_replicate]
    split <;> rfl
  | i + 1, j, hi, hj => by
    have hl := cpK_length b i
    have ih := cpK_get b i j (by omega) hj
    rw [cpK]
    by_cases h : i = j
    · subst h
      rw [if_pos (by omega)]
      simp [hl, show i < 32 by omega]
    · rw [List.getD_eq_getElem?_getD, List.getElem?_set_ne h, ← List.getD_eq_getElem?_getD, ih]
      by_cases h2 : j < i
      · rw [if_pos h2, if_pos (by omega)]
      · rw [if_neg h2, if_neg (by omega)]
theorem cpK_all {b : List UInt8} (h : 32 ≤ b.length) : cpK b 32 = b.take 32 := by
  have hl := cpK_length b 32
  apply List.ext_getElem
  · rw [hl, List.length_take]; omega
  · intro j h1 h2
    have h3 := cpK_get b 32 j (by omega) (by omega)
    rw [if_pos (by omega)] at h3
    rw [List.getElem_take]
    simp only [List.getD_eq_getElem?_getD] at h3
    rw [List.getElem?_eq_getElem h1, List.getElem?_eq_getElem (by omega)] at h3
    exact h3
theorem rspread32_calls (k p : List UInt8) (hk : k.length = 32) (hp : p.length ≤ 1000) (w : World) :
    Calls Try.prog 19 #[.agg (bys k).toArray, .string ⟨p.toArray⟩, vN 32] w fun e w' => ∃ A c c', e = .returned (.tuple #[.slice A 32 c', .int .i64 0]) ∧ 32 ≤ c' ∧ St [] w [.row 5 1 (.slice A 32 c) 32 (bys (spread k p 32))] w' :=
  (rspread_calls k p 32 hk hp (by omega) w).mono fun e w' h => by
    obtain ⟨A, c, c', h1, h2, h3⟩ := h
    have e : sprOut k p ((32 + 31) / 32) = spread k p 32 := by rw [spread, List.take_of_length_le (by rw [sprOut_length]; omega)]
    rw [e, show 32 * ((32 + 31) / 32) = 32 from rfl] at h3
    exact ⟨A, c, c', h1, h2, h3⟩
set_option maxHeartbeats 2000000 in
theorem rkey_calls (k p : List UInt8) (hk : k.length = 32) (hp : p.length ≤ 1000) (w : World) :
    Calls Try.prog 23 #[.agg (bys k).toArray, .string ⟨p.toArray⟩] w fun e w' => e = .returned (.agg (bys (spread k p 32)).toArray) ∧ Kept [] w w' := by
  obtain ⟨s, hs⟩ : ∃ s, s = spread k p 32 := ⟨_, rfl⟩
  have hsl : s.length = 32 := by rw [hs]; exact spread_length k p 32
  rw [← hs]
  refine enter (n := 26) (R := fun e L => e = .returned (.agg (bys s).toArray)) [.agg (bys k).toArray, .string ⟨p.toArray⟩] Try.func23 rfl rfl rfl (St.refl w) ?_ (fun e w' L' h H => ⟨h, H.kept⟩)
  refine VC_seq ?_
  refine VC_region ?_
  refine l_boxA rfl rfl ?_
  intro b2
  refine l_allocA zr23 rfl ?_
  intro b4
  refine vl_nil ?_
  refine (th_n ?_)
  refine VC_seq ?_
  refine VC_region ?_
  first | (refine vl_v (q_loads 1 Try.underlying23 rfl rfl rfl sz23 (by first | omega | with_reducible assumption | (simp only [zb, zu, zw, zi, za]; omega) | (simp only [zs, zr, zm, za, zb, zu, zw, zi, zt, zd, zc, zn, *] <;> first | done | omega) | rfl)) rfl ?_) | (refine vl_v (q_loadsAt 1 Try.underlying23 rfl rfl rfl sz23 (by rfl) (by first | omega | with_reducible assumption | (simp only [zb, zu, zw, zi, za]; omega) | (simp only [zs, zr, zm, za, zb, zu, zw, zi, zt, zd, zc, zn, *] <;> first | done | omega) | rfl)) rfl ?_)
  refine vl_v (q_move rfl) rfl ?_
  refine l_call (F := fun v L' => ∃ A8 c8 d8, 32 ≤ d8 ∧ v = .tuple #[.slice A8 32 d8, .int .i64 0] ∧ L' = [.row 5 1 (.slice A8 32 c8) 32 (bys s), .blk b4 23 (bys (List.replicate 32 0)), .blk b2 23 (bys k)]) Try.func19 rfl rfl rfl (fun w1 H1 => (rspread32_calls k p hk hp w1).mono fun e w' h => ?_) rfl ?_
  · obtain ⟨A8, c8, d8, h1, h3, h2⟩ := h
    rw [← hs] at h2
    exact ⟨_, _, h1, ⟨A8, c8, d8, h3, rfl, rfl⟩, ((H1.join h2).perm List.perm_append_comm).pick (ks := [0, 1, 2]) (by decide) rfl⟩
  rintro v L' ⟨A8, c8, d8, hd8, rfl, rfl⟩
  refine vl_v (q_move rfl) rfl ?_
  refine vl_v (q_ext rfl rfl) rfl ?_
  refine vl_v (q_ext rfl rfl) rfl ?_
  refine vl_v (q_assign rfl) rfl ?_
  refine vl_v (q_assign rfl) rfl ?_
  refine vl_nil ?_
  refine (th_n ?_)
  refine VC_seq ?_
  refine VC_region ?_
  refine l_allocA zr23 rfl ?_
  intro b7
  refine vl_nil ?_
  refine (th_n ?_)
  refine VC_seq ?_
  refine VC_seq ?_
  refine VC_region ?_
  refine vl_v (q_assign rfl) rfl ?_
  refine vl_nil ?_
  refine (th_n ?_)
  refine VC_block ?_
  refine VC_loop (ι := Nat) (fun i => i ≤ 32) (fun i => [(4, vP b4 0), (5, .slice A8 32 d8), (7, vP b7 0), (8, vN i)]) (fun i => [.blk b7 23 (bys (cpK s i)), .row 5 1 (.slice A8 32 c8) 32 (bys s), .blk b4 23 (bys (List.replicate 32 0)), .blk b2 23 (bys k)]) (fun i => 32 - i) 0 (by omega) (Sub.cons (s := 4) rfl (Sub.cons (s := 5) rfl (Sub.cons (s := 7) rfl (Sub.cons (s := 8) rfl (Sub.nil _))))) (fun w H => H) ?_
  rintro i hp
  have hcl := cpK_length s i
  refine VC_seq ?_
  refine VC_seq ?_
  refine VC_region ?_
  refine vl_v (q_move rfl) rfl ?_
  first | (refine vl_v (q_lss_n (q := 32) Try.underlying3 rfl rfl) rfl ?_) | (refine vl_v (q_lss_k Try.underlying3 rfl rfl) rfl ?_)
  refine vl_nil ?_
  refine (th_n ?_)
  refine VC_cond rfl (fun ht16 => ?_) (fun ht16 => ?_)
  · skip
    have ht16 := of_decide_eq_true ht16
    refine VC_skip ?_
    refine (th_n ?_)
    refine VC_seq ?_
    refine VC_block ?_
    have ht16 : i < 32 := ht16
    refine VC_region ?_
    refine vl_v (q_move rfl) rfl ?_
    refine vl_v (q_move rfl) rfl ?_
    refine vl_v (q_move rfl) rfl ?_
    refine vl_v (q_idxRd (m := i) Try.underlying24 sz5 rfl rfl ht16 (Reads.row 1 rfl) (by rw [bys_length, hsl]; exact ht16)) rfl ?_
    refine vl_v (q_loadRd Try.underlying5 rfl rfl (Reads.row 1 rfl) (bys_at (by rw [hsl]; exact ht16))) rfl ?_
    first | (refine vl_v (q_idxA Try.underlying23 sz5 rfl rfl (by omega) (r := _) (by rw [Nat.mul_one, Nat.zero_add])) rfl ?_) | (refine vl_v (q_idxA Try.underlying23 sz5 rfl rfl (by omega) rfl) rfl ?_)
    first | (refine l_stB 0 rfl rfl rfl sz5 (by first | omega | with_reducible assumption | (simp only [zb, zu, zw, zi, za]; omega) | (simp only [zs, zr, zm, za, zb, zu, zw, zi, zt, zd, zc, zn, *] <;> first | done | omega) | rfl) ?_) | (refine l_store1 0 rfl rfl rfl sz5 rfl (by first | decide | simp) ?_)
    simp only [List.set_cons_zero, List.set_cons_succ]
    refine vl_nil ?_
    refine (bl_n (th_n ?_))
    refine VC_region ?_
    refine vl_v (q_move rfl) rfl ?_
    first | (refine vl_v (q_add_n (q := 1) rfl rfl (by omega)) rfl ?_) | (refine vl_v (q_add_i rfl rfl (by omega) (by omega)) rfl ?_)
    refine vl_v (q_assign rfl) rfl ?_
    refine vl_nil ?_
    refine (th_n ?_)
    refine ⟨i + 1, by omega, by omega, (Sub.cons (s := 4) rfl (Sub.cons (s := 5) rfl (Sub.cons (s := 7) rfl (Sub.cons (s := 8) rfl (Sub.nil _))))), fun w H => H⟩
  · skip
    have ht16 := of_decide_eq_false ht16
    obtain rfl : i = 32 := by omega
    rw [show cpK s 32 = s by rw [cpK_all (by omega), List.take_of_length_le (by omega)]]
    refine VC_exit ?_
    refine (th_x (th_x (bl_xs (th_n ?_))))
    refine VC_seq ?_
    refine VC_region ?_
    first | (refine vl_v (q_loads 0 Try.underlying23 rfl rfl rfl sz23 (by first | omega | with_reducible assumption | (simp only [zb, zu, zw, zi, za]; omega) | (simp only [zs, zr, zm, za, zb, zu, zw, zi, zt, zd, zc, zn, *] <;> first | done | omega) | rfl)) rfl ?_) | (refine vl_v (q_loadsAt 0 Try.underlying23 rfl rfl rfl sz23 (by rfl) (by first | omega | with_reducible assumption | (simp only [zb, zu, zw, zi, za]; omega) | (simp only [zs, zr, zm, za, zb, zu, zw, zi, zt, zd, zc, zn, *] <;> first | done | omega) | rfl)) rfl ?_)
    refine l_storeA 2 rfl rfl rfl sz23 (by first | omega | with_reducible assumption | (simp only [zb, zu, zw, zi, za]; omega) | (simp only [zs, zr, zm, za, zb, zu, zw, zi, zt, zd, zc, zn, *] <;> first | done | omega) | rfl) (by first | (with_reducible first | exact bys_one _ | exact u32s_one _ | exact u64s_one _ | exact i64s_one _ | exact n64s_one _ | assumption) | exact bys_one _ | exact u32s_one _ | exact u64s_one _ | exact i64s_one _ | exact one_all rfl | (refine app_one ?_ ?_ <;> first | exact bys_one _ | (simp; done))) (by first | omega | with_reducible assumption | (simp only [zb, zu, zw, zi, za]; omega) | (simp only [zs, zr, zm, za, zb, zu, zw, zi, zt, zd, zc, zn, *] <;> first | done | omega) | rfl) ?_
    simp only [List.set_cons_zero, List.set_cons_succ]
    refine vl_nil ?_
    refine (th_n ?_)
    refine VC_ret ?_
    refine ⟨_, resC1 2 rfl Try.underlying23 rfl rfl rfl sz23 (by first | omega | with_reducible assumption | (simp only [zb, zu, zw, zi, za]; omega) | (simp only [zs, zr, zm, za, zb, zu, zw, zi, zt, zd, zc, zn, *] <;> first | done | omega) | rfl), ?_⟩
    exact rfl
end Go.Proofs.Ytkadnmoephkklaa
