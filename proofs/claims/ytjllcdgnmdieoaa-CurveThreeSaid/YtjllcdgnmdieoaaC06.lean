/- What the functions of package field do: carrying, the number of bytes, less p, sums, differences, products. Conditions: a number as it is kept. -/
import Derived.Test.YtjllcdgnmdieoaaY
import Derived.Test.YtjllcdgnmdieoaaS06b
namespace Go.Proofs.Ytjllcdgnmdieoaa
open Go.RowKit Go.PBYtjllcdgnmdieoaa
set_option linter.unusedVariables false
set_option linter.unusedSimpArgs false
set_option maxRecDepth 10000

theorem i64s_atT {l : List Int} {j : Nat} (h : j < l.length) : (i64s l).toArray[j]? = some (vI (l.getD j 0)) := by
  rw [List.getElem?_toArray]
  exact i64s_at h

theorem cSt_lt (v : List Int) {i : Nat} (h : i < 15) : cSt v (i + 1) = ((cSt v i).set i ((cSt v i).getD i 0 - (cSt v i).getD i 0 / 2 ^ 16 * 2 ^ 16)).set (i + 1) (((cSt v i).set i ((cSt v i).getD i 0 - (cSt v i).getD i 0 / 2 ^ 16 * 2 ^ 16)).getD (i + 1) 0 + (cSt v i).getD i 0 / 2 ^ 16) := by
  conv => lhs; unfold cSt
  exact if_pos h
theorem cSt_ge (v : List Int) {i : Nat} (h : ¬ i < 15) : cSt v (i + 1) = ((cSt v i).set i ((cSt v i).getD i 0 - (cSt v i).getD i 0 / 2 ^ 16 * 2 ^ 16)).set 0 (((cSt v i).set i ((cSt v i).getD i 0 - (cSt v i).getD i 0 / 2 ^ 16 * 2 ^ 16)).getD 0 0 + 38 * ((cSt v i).getD i 0 / 2 ^ 16)) := by
  conv => lhs; unfold cSt
  exact if_neg h
set_option maxHeartbeats 2000000 in
theorem carry_calls {S : List Nat} {w0 : World} {R : List Res} (v : List Int) (b : Nat) (hv : v.length = 16) (hM : ∀ j, j < 16 → -1152921504606846976 ≤ v.getD j 0 ∧ v.getD j 0 ≤ 1152921504606846976) (w : World) (H : St S w0 (.blk b 37 (i64s v) :: R) w) :
    Calls Try.prog 31 #[vP b 0] w fun e w' => e = .returned (.tuple #[]) ∧ St S w0 (.blk b 37 (i64s (carryL v)) :: R) w' := by
  have hcb := cOut_bound (K := 35184372088832) hM (by omega) (by omega)
  refine enter (n := 52) (R := fun e L => e = .returned (.tuple #[]) ∧ L = .blk b 37 (i64s (carryL v)) :: R) [vP b 0] Try.func31 rfl rfl rfl H ?_ (fun e w' L' h H => ⟨h.1, h.2 ▸ H⟩)
  refine VC_seq ?_
  refine VC_region ?_
  refine vl_v (q_move rfl) rfl ?_
  refine vl_nil ?_
  refine (th_n ?_)
  refine VC_block ?_
  refine VC_loop (ι := Nat) (fun i => i ≤ 16) (fun i => [(0, vP b 0), (4, vN i)]) (fun i => .blk b 37 (i64s (cSt v i)) :: R) (fun i => 16 - i) 0 (by omega) (Sub.cons (s := 0) rfl (Sub.cons (s := 4) rfl (Sub.nil _))) (fun w H => H) ?_
  rintro i hp
  have hl := (cSt_length v i).trans hv
  refine VC_seq ?_
  refine VC_region ?_
  first | (refine vl_v (q_lss_n (q := 16) Try.underlying3 rfl rfl) rfl ?_) | (refine vl_v (q_lss_k Try.underlying3 rfl rfl) rfl ?_)
  refine vl_nil ?_
  refine (th_n ?_)
  refine VC_seq ?_
  refine VC_cond rfl (fun ht5 => ?_) (fun ht5 => ?_)
  · skip
    have ht5 := of_decide_eq_true ht5
    refine VC_skip ?_
    refine (th_n ?_)
    refine VC_seq ?_
    refine VC_block ?_
    refine VC_seq ?_
    refine VC_region ?_
    refine vl_v (q_move rfl) rfl ?_
    refine vl_v (q_assign rfl) rfl ?_
    refine vl_nil ?_
    refine (th_n ?_)
    refine VC_seq ?_
    refine VC_region ?_
    have ht5 : i < 16 := ht5
    have hg := cSt_get hv i (by omega) i ht5
    rw [if_neg (by omega), if_pos rfl] at hg
    have hMi := hM i ht5
    have hci := hcb i (by omega)
    refine vl_v (q_move rfl) rfl ?_
    refine vl_v (q_move rfl) rfl ?_
    refine vl_v (q_nilck rfl) rfl ?_
    refine vl_v (q_fldA fo37_0 (by decide) rfl rfl) rfl ?_
    first | (refine vl_v (q_idxA Try.underlying35 sz2 rfl rfl (by omega) (r := _) (by rw [Nat.mul_one, Nat.zero_add])) rfl ?_) | (refine vl_v (q_idxA Try.underlying35 sz2 rfl rfl (by omega) rfl) rfl ?_)
    first | (refine vl_v (q_load 0 Try.underlying2 rfl rfl rfl (i64s_at (by first | omega | with_reducible assumption | (simp only [bys_length, u32s_length, u64s_length, i64s_length, n64s_length, List.length_append]; omega) | (simp only [List.length_set, List.length_replicate, List.length_map, List.length_append, bys_length, u32s_length, u64s_length, i64s_length, List.length_take, List.length_drop, List.length_cons, List.length_nil, *] <;> first | done | omega) | rfl))) rfl ?_) | (refine vl_v (q_load 0 Try.underlying2 rfl rfl rfl rfl) rfl ?_)
    refine vl_v (q_shr_i (m := 16) rfl rfl (by decide)) rfl ?_
    refine vl_v (q_assign rfl) rfl ?_
    refine vl_nil ?_
    refine (th_n ?_)
    refine VC_seq ?_
    refine VC_drawV 11 [[], [], [0], [2], [3, 1], [4], [], [6], [5, 7], [0], [9], [10, 1, 0, 2, 3, 4, 5, 6, 7, 8], [11, 8, 0, 1, 2, 3, 4, 5, 6, 7]] [[], [], [0], [0, 2], [0, 1, 2, 3], [0, 1, 2, 3, 4], [], [6], [0, 1, 2, 3, 4, 5, 6, 7], [0], [0, 9], [0, 1, 2, 3, 4, 5, 6, 7, 8, 9, 10], [0, 1, 2, 3, 4, 5, 6, 7, 8, 9, 10, 11]] rfl (by kernel_rfl) ?_
    refine qv_v (q_move rfl) ?_
    refine qv_v (q_move rfl) ?_
    refine qv_v (q_nilck rfl) ?_
    refine qv_v (q_fldA fo37_0 (by decide) rfl rfl) ?_
    first | (refine qv_v (q_idxA Try.underlying35 sz2 rfl rfl (by omega) (r := _) (by rw [Nat.mul_one, Nat.zero_add])) ?_) | (refine qv_v (q_idxA Try.underlying35 sz2 rfl rfl (by omega) rfl) ?_)
    first | (refine qv_v (q_load 0 Try.underlying2 rfl rfl rfl (i64s_at (by first | omega | with_reducible assumption | (simp only [bys_length, u32s_length, u64s_length, i64s_length, n64s_length, List.length_append]; omega) | (simp only [List.length_set, List.length_replicate, List.length_map, List.length_append, bys_length, u32s_length, u64s_length, i64s_length, List.length_take, List.length_drop, List.length_cons, List.length_nil, *] <;> first | done | omega) | rfl))) ?_) | (refine qv_v (q_load 0 Try.underlying2 rfl rfl rfl rfl) ?_)
    refine qv_v (q_move rfl) ?_
    refine qv_v (q_shl_i (m := 16) rfl rfl (by decide) (by omega) (by omega)) ?_
    refine qv_v (q_sub_i rfl rfl (by omega) (by omega)) ?_
    refine qv_v (q_nilck rfl) ?_
    refine qv_v (q_fldA fo37_0 (by decide) rfl rfl) ?_
    refine qv_end ?_
    refine VL.keep (Sub.cons (s := 0) rfl (Sub.cons (s := 4) rfl (Sub.cons (s := 5) rfl (Sub.cons (s := 2) rfl (Sub.cons (s := 3) rfl (Sub.cons (s := 15) rfl (Sub.cons (s := 22) rfl (Sub.cons (s := 24) rfl (Sub.nil _))))))))) ?_
    first | (refine vl_v (q_idxA Try.underlying35 sz2 rfl rfl (by omega) (r := _) (by rw [Nat.mul_one, Nat.zero_add])) rfl ?_) | (refine vl_v (q_idxA Try.underlying35 sz2 rfl rfl (by omega) rfl) rfl ?_)
    first | (refine l_stI 0 rfl rfl rfl sz2 (by first | omega | with_reducible assumption | (simp only [bys_length, u32s_length, u64s_length, i64s_length, n64s_length, List.length_append]; omega) | (simp only [List.length_set, List.length_replicate, List.length_map, List.length_append, bys_length, u32s_length, u64s_length, i64s_length, List.length_take, List.length_drop, List.length_cons, List.length_nil, *] <;> first | done | omega) | rfl) ?_) | (refine l_store1 0 rfl rfl rfl sz2 rfl (by first | decide | simp) ?_)
    simp only [List.set_cons_zero, List.set_cons_succ]
    refine vl_nil ?_
    refine (qn_n (th_n ?_))
    refine VC_seq ?_
    refine VC_region ?_
    refine vl_v (q_move rfl) rfl ?_
    first | (refine vl_v (q_lss_n (q := 15) Try.underlying3 rfl rfl) rfl ?_) | (refine vl_v (q_lss_k Try.underlying3 rfl rfl) rfl ?_)
    refine vl_nil ?_
    refine (th_n ?_)
    refine VC_cond rfl (fun ht27 => ?_) (fun ht27 => ?_)
    · skip
      have ht27 := of_decide_eq_true ht27
      have ht27 : i < 15 := ht27
      have hg1 := cSt_get hv i (by omega) (i + 1) (by omega)
      rw [if_neg (by omega), if_neg (by omega)] at hg1
      have hM1 := hM (i + 1) (by omega)
      have hs1 : ((cSt v i).set i ((cSt v i).getD i 0 - (cSt v i).getD i 0 / 2 ^ 16 * 2 ^ 16)).getD (i + 1) 0 = (cSt v i).getD (i + 1) 0 := by rw [getD_set _ _ _ _ _ (by omega), if_neg (by omega)]
      refine VC_drawV 11 [[], [], [1], [0], [3], [4, 2], [5], [], [6, 7], [0], [9], [10, 2, 0, 1, 3, 4, 5, 6, 7, 8], [11, 8, 0, 1, 2, 3, 4, 5, 6, 7]] [[], [], [1], [0], [0, 3], [0, 1, 2, 3, 4], [0, 1, 2, 3, 4, 5], [], [0, 1, 2, 3, 4, 5, 6, 7], [0], [0, 9], [0, 1, 2, 3, 4, 5, 6, 7, 8, 9, 10], [0, 1, 2, 3, 4, 5, 6, 7, 8, 9, 10, 11]] rfl (by kernel_rfl) ?_
      refine qv_v (q_move rfl) ?_
      refine qv_v (q_move rfl) ?_
      first | (refine qv_v (q_add_n (q := 1) rfl rfl (by omega)) ?_) | (refine qv_v (q_add_i rfl rfl (by omega) (by omega)) ?_)
      refine qv_v (q_nilck rfl) ?_
      refine qv_v (q_fldA fo37_0 (by decide) rfl rfl) ?_
      first | (refine qv_v (q_idxA Try.underlying35 sz2 rfl rfl (by omega) (r := _) (by rw [Nat.mul_one, Nat.zero_add])) ?_) | (refine qv_v (q_idxA Try.underlying35 sz2 rfl rfl (by omega) rfl) ?_)
      first | (refine qv_v (q_load 0 Try.underlying2 rfl rfl rfl (i64s_at (by first | omega | with_reducible assumption | (simp only [bys_length, u32s_length, u64s_length, i64s_length, n64s_length, List.length_append]; omega) | (simp only [List.length_set, List.length_replicate, List.length_map, List.length_append, bys_length, u32s_length, u64s_length, i64s_length, List.length_take, List.length_drop, List.length_cons, List.length_nil, *] <;> first | done | omega) | rfl))) ?_) | (refine qv_v (q_load 0 Try.underlying2 rfl rfl rfl rfl) ?_)
      refine qv_v (q_move rfl) ?_
      refine qv_v (q_add_i rfl rfl (by omega) (by omega)) ?_
      refine qv_v (q_nilck rfl) ?_
      refine qv_v (q_fldA fo37_0 (by decide) rfl rfl) ?_
      refine qv_end ?_
      refine VL.keep (Sub.cons (s := 0) rfl (Sub.cons (s := 4) rfl (Sub.cons (s := 5) rfl (Sub.cons (s := 2) rfl (Sub.cons (s := 3) rfl (Sub.cons (s := 27) rfl (Sub.cons (s := 30) rfl (Sub.cons (s := 36) rfl (Sub.cons (s := 38) rfl (Sub.nil _)))))))))) ?_
      first | (refine vl_v (q_idxA Try.underlying35 sz2 rfl rfl (by omega) (r := _) (by rw [Nat.mul_one, Nat.zero_add])) rfl ?_) | (refine vl_v (q_idxA Try.underlying35 sz2 rfl rfl (by omega) rfl) rfl ?_)
      first | (refine l_stI 0 rfl rfl rfl sz2 (by first | omega | with_reducible assumption | (simp only [bys_length, u32s_length, u64s_length, i64s_length, n64s_length, List.length_append]; omega) | (simp only [List.length_set, List.length_replicate, List.length_map, List.length_append, bys_length, u32s_length, u64s_length, i64s_length, List.length_take, List.length_drop, List.length_cons, List.length_nil, *] <;> first | done | omega) | rfl) ?_) | (refine l_store1 0 rfl rfl rfl sz2 rfl (by first | decide | simp) ?_)
      simp only [List.set_cons_zero, List.set_cons_succ]
      refine vl_nil ?_
      refine (qn_n (bl_n (th_n ?_)))
      refine VC_region ?_
      first | (refine vl_v (q_add_n (q := 1) rfl rfl (by omega)) rfl ?_) | (refine vl_v (q_add_i rfl rfl (by omega) (by omega)) rfl ?_)
      refine vl_v (q_move rfl) rfl ?_
      refine vl_nil ?_
      refine (th_n ?_)
      refine ⟨i + 1, by omega, by omega, (Sub.cons (s := 0) rfl (Sub.cons (s := 4) rfl (Sub.nil _))), fun w H => by first | (rw [cSt_lt v (by omega)]; exact H) | (rw [cSt_ge v (by omega)]; exact H)⟩
    · skip
      have ht27 := of_decide_eq_false ht27
      have hi15 : i = 15 := by omega
      have hg1 := cSt_get hv i (by omega) 0 (by omega)
      rw [if_pos (by omega)] at hg1
      have hl2 : ((cSt v i).set i ((cSt v i).getD i 0 - (cSt v i).getD i 0 / 2 ^ 16 * 2 ^ 16)).length = 16 := by rw [List.length_set, hl]
      have hs1 : ((cSt v i).set i ((cSt v i).getD i 0 - (cSt v i).getD i 0 / 2 ^ 16 * 2 ^ 16)).getD 0 0 = (cSt v i).getD 0 0 := by rw [getD_set _ _ _ _ _ (by omega), if_neg (by omega)]
      refine VC_drawV 10 [[], [0], [1], [2], [3], [], [5], [4, 6], [0], [8], [9, 0, 1, 2, 3, 4, 5, 6, 7], [10, 7, 0, 1, 2, 3, 4, 5, 6]] [[], [0], [0, 1], [0, 1, 2], [0, 1, 2, 3], [], [5], [0, 1, 2, 3, 4, 5, 6], [0], [0, 8], [0, 1, 2, 3, 4, 5, 6, 7, 8, 9], [0, 1, 2, 3, 4, 5, 6, 7, 8, 9, 10]] rfl (by kernel_rfl) ?_
      refine qv_v (q_move rfl) ?_
      refine qv_v (q_nilck rfl) ?_
      refine qv_v (q_fldA fo37_0 (by decide) rfl rfl) ?_
      first | (refine qv_v (q_idxA (m := 0) Try.underlying35 sz2 rfl rfl (by omega) (r := _) (by rw [Nat.mul_one, Nat.zero_add])) ?_) | (refine qv_v (q_idxA (m := 0) Try.underlying35 sz2 rfl rfl (by omega) rfl) ?_)
      first | (refine qv_v (q_load 0 Try.underlying2 rfl rfl rfl (i64s_at (by first | omega | with_reducible assumption | (simp only [bys_length, u32s_length, u64s_length, i64s_length, n64s_length, List.length_append]; omega) | (simp only [List.length_set, List.length_replicate, List.length_map, List.length_append, bys_length, u32s_length, u64s_length, i64s_length, List.length_take, List.length_drop, List.length_cons, List.length_nil, *] <;> first | done | omega) | rfl))) ?_) | (refine qv_v (q_load 0 Try.underlying2 rfl rfl rfl rfl) ?_)
      refine qv_v (q_move rfl) ?_
      refine qv_v (q_mul_i rfl rfl (by omega) (by omega)) ?_
      refine qv_v (q_add_i rfl rfl (by omega) (by omega)) ?_
      refine qv_v (q_nilck rfl) ?_
      refine qv_v (q_fldA fo37_0 (by decide) rfl rfl) ?_
      refine qv_end ?_
      refine VL.keep (Sub.cons (s := 0) rfl (Sub.cons (s := 4) rfl (Sub.cons (s := 5) rfl (Sub.cons (s := 2) rfl (Sub.cons (s := 3) rfl (Sub.cons (s := 27) rfl (Sub.cons (s := 47) rfl (Sub.cons (s := 49) rfl (Sub.nil _))))))))) ?_
      first | (refine vl_v (q_idxA (m := 0) Try.underlying35 sz2 rfl rfl (by omega) (r := _) (by rw [Nat.mul_one, Nat.zero_add])) rfl ?_) | (refine vl_v (q_idxA (m := 0) Try.underlying35 sz2 rfl rfl (by omega) rfl) rfl ?_)
      first | (refine l_stI 0 rfl rfl rfl sz2 (by first | omega | with_reducible assumption | (simp only [bys_length, u32s_length, u64s_length, i64s_length, n64s_length, List.length_append]; omega) | (simp only [List.length_set, List.length_replicate, List.length_map, List.length_append, bys_length, u32s_length, u64s_length, i64s_length, List.length_take, List.length_drop, List.length_cons, List.length_nil, *] <;> first | done | omega) | rfl) ?_) | (refine l_store1 0 rfl rfl rfl sz2 rfl (by first | decide | simp) ?_)
      simp only [List.set_cons_zero, List.set_cons_succ]
      refine vl_nil ?_
      refine (qn_n (bl_n (th_n ?_)))
      refine VC_region ?_
      first | (refine vl_v (q_add_n (q := 1) rfl rfl (by omega)) rfl ?_) | (refine vl_v (q_add_i rfl rfl (by omega) (by omega)) rfl ?_)
      refine vl_v (q_move rfl) rfl ?_
      refine vl_nil ?_
      refine (th_n ?_)
      refine ⟨i + 1, by omega, by omega, (Sub.cons (s := 0) rfl (Sub.cons (s := 4) rfl (Sub.nil _))), fun w H => by first | (rw [cSt_lt v (by omega)]; exact H) | (rw [cSt_ge v (by omega)]; exact H)⟩
  · skip
    have ht5 := of_decide_eq_false ht5
    obtain rfl : i = 16 := by omega
    refine VC_exit ?_
    refine (th_x (th_x (bl_xs ?_)))
    refine ⟨_, res0 rfl, ?_⟩
    exact ⟨rfl, rfl⟩
end Go.Proofs.Ytjllcdgnmdieoaa
