/- What the document's own functions of the field do: the number of bytes, carrying, sums, differences, products. Conditions: digits. -/
import Derived.Test.YtjllcdgnmdieoaaC06
import Derived.Test.YtjllcdgnmdieoaaS06c
namespace Go.Proofs.Ytjllcdgnmdieoaa
open Go.RowKit Go.PBYtjllcdgnmdieoaa
set_option linter.unusedVariables false
set_option linter.unusedSimpArgs false
set_option maxRecDepth 10000

set_option maxHeartbeats 2000000 in
theorem rof_calls (k : List UInt8) (hk : k.length = 32) (w : World) :
    Calls Try.prog 14 #[.agg (bys k).toArray] w fun e w' => e = .returned (.agg (n64s (rofL k)).toArray) ∧ Kept [] w w' := by
  have hol := (rofL_dig hk).1
  refine enter (n := 29) (R := fun e L => e = .returned (.agg (n64s (rofL k)).toArray)) [.agg (bys k).toArray] Try.func14 rfl rfl rfl (St.refl w) ?_ (fun e w' L' h H => ⟨h, H.kept⟩)
  refine VC_seq ?_
  refine VC_region ?_
  refine l_boxA rfl rfl ?_
  intro b1
  refine l_allocA zr33 rfl ?_
  intro b2
  simp only [u64s_rep]
  refine vl_nil ?_
  refine (th_n ?_)
  refine VC_seq ?_
  refine VC_region ?_
  refine l_allocA zr33 rfl ?_
  intro b3
  simp only [u64s_rep]
  refine vl_nil ?_
  refine (th_n ?_)
  refine VC_seq ?_
  refine VC_seq ?_
  refine VC_region ?_
  refine vl_v (q_assign rfl) rfl ?_
  refine vl_nil ?_
  refine (th_n ?_)
  refine VC_block ?_
  refine VC_loop (ι := Nat) (fun i => i ≤ 16) (fun i => [(1, vP b1 0), (2, vP b2 0), (3, vP b3 0), (4, vN i)]) (fun i => [.blk b3 33 (n64s (rofSt k i)), .blk b2 33 (n64s (List.replicate 16 0)), .blk b1 23 (bys k)]) (fun i => 16 - i) 0 (by omega) (Sub.cons (s := 1) rfl (Sub.cons (s := 2) rfl (Sub.cons (s := 3) rfl (Sub.cons (s := 4) rfl (Sub.nil _))))) (fun w H => H) ?_
  rintro i hp
  have hl := rofSt_length k i
  refine VC_seq ?_
  refine VC_seq ?_
  refine VC_region ?_
  refine vl_v (q_move rfl) rfl ?_
  first | (refine vl_v (q_lss_n (q := 16) Try.underlying3 rfl rfl) rfl ?_) | (refine vl_v (q_lss_k Try.underlying3 rfl rfl) rfl ?_)
  refine vl_nil ?_
  refine (th_n ?_)
  refine VC_cond rfl (fun ht6 => ?_) (fun ht6 => ?_)
  · skip
    have ht6 := of_decide_eq_true ht6
    refine VC_skip ?_
    refine (th_n ?_)
    refine VC_seq ?_
    refine VC_block ?_
    have ht6 : i < 16 := ht6
    have hb1 := UInt8.toNat_lt (k.getD (2 * i) 0)
    have hb2 := UInt8.toNat_lt (k.getD (2 * i + 1) 0)
    refine VC_drawV 14 [[], [], [1], [2], [3], [4], [], [6], [7], [8], [9], [10], [11], [5, 12], [0, 1, 2, 3, 4, 5, 6, 7, 8, 9, 10, 11, 12, 13], [14, 13, 0, 1, 2, 3, 4, 5, 6, 7, 8, 9, 10, 11, 12]] [[], [], [1], [1, 2], [1, 2, 3], [1, 2, 3, 4], [], [6], [6, 7], [6, 7, 8], [6, 7, 8, 9], [6, 7, 8, 9, 10], [6, 7, 8, 9, 10, 11], [1, 2, 3, 4, 5, 6, 7, 8, 9, 10, 11, 12], [0, 1, 2, 3, 4, 5, 6, 7, 8, 9, 10, 11, 12, 13], [0, 1, 2, 3, 4, 5, 6, 7, 8, 9, 10, 11, 12, 13, 14]] rfl (by kernel_rfl) ?_
    refine qv_v (q_move rfl) ?_
    refine qv_v (q_move rfl) ?_
    first | (refine qv_v (q_mul_n (p := 2) rfl rfl (by omega)) ?_) | (refine qv_v (q_mul_i rfl rfl (by omega) (by omega)) ?_)
    first | (refine qv_v (q_idxA Try.underlying23 sz5 rfl rfl (by omega) (r := _) (by rw [Nat.mul_one, Nat.zero_add])) ?_) | (refine qv_v (q_idxA Try.underlying23 sz5 rfl rfl (by omega) rfl) ?_)
    first | (refine qv_v (q_load 2 Try.underlying5 rfl rfl rfl (bys_at (by first | omega | with_reducible assumption | (simp only [bys_length, u32s_length, u64s_length, i64s_length, n64s_length, List.length_append]; omega) | (simp only [List.length_set, List.length_replicate, List.length_map, List.length_append, bys_length, u32s_length, u64s_length, i64s_length, List.length_take, List.length_drop, List.length_cons, List.length_nil, *] <;> first | done | omega) | rfl))) ?_) | (refine qv_v (q_load 2 Try.underlying5 rfl rfl rfl rfl) ?_)
    refine qv_v (q_conv_nw Try.underlying5 Try.underlying31 rfl (by omega)) ?_
    refine qv_v (q_move rfl) ?_
    first | (refine qv_v (q_mul_n (p := 2) rfl rfl (by omega)) ?_) | (refine qv_v (q_mul_i rfl rfl (by omega) (by omega)) ?_)
    first | (refine qv_v (q_add_n (q := 1) rfl rfl (by omega)) ?_) | (refine qv_v (q_add_i rfl rfl (by omega) (by omega)) ?_)
    first | (refine qv_v (q_idxA Try.underlying23 sz5 rfl rfl (by omega) (r := _) (by rw [Nat.mul_one, Nat.zero_add])) ?_) | (refine qv_v (q_idxA Try.underlying23 sz5 rfl rfl (by omega) rfl) ?_)
    first | (refine qv_v (q_load 2 Try.underlying5 rfl rfl rfl (bys_at (by first | omega | with_reducible assumption | (simp only [bys_length, u32s_length, u64s_length, i64s_length, n64s_length, List.length_append]; omega) | (simp only [List.length_set, List.length_replicate, List.length_map, List.length_append, bys_length, u32s_length, u64s_length, i64s_length, List.length_take, List.length_drop, List.length_cons, List.length_nil, *] <;> first | done | omega) | rfl))) ?_) | (refine qv_v (q_load 2 Try.underlying5 rfl rfl rfl rfl) ?_)
    refine qv_v (q_conv_nw Try.underlying5 Try.underlying31 rfl (by omega)) ?_
    refine qv_v (q_mul_w (p := 256) rfl rfl (by omega)) ?_
    refine qv_v (q_add_w rfl rfl (by omega)) ?_
    refine qv_end ?_
    refine VL.keep (Sub.cons (s := 1) rfl (Sub.cons (s := 2) rfl (Sub.cons (s := 3) rfl (Sub.cons (s := 4) rfl (Sub.cons (s := 6) rfl (Sub.cons (s := 9) rfl (Sub.cons (s := 22) rfl (Sub.nil _)))))))) ?_
    first | (refine vl_v (q_idxA Try.underlying33 sz31 rfl rfl (by omega) (r := _) (by rw [Nat.mul_one, Nat.zero_add])) rfl ?_) | (refine vl_v (q_idxA Try.underlying33 sz31 rfl rfl (by omega) rfl) rfl ?_)
    first | (refine l_stN 0 rfl rfl rfl sz31 (by first | omega | with_reducible assumption | (simp only [bys_length, u32s_length, u64s_length, i64s_length, n64s_length, List.length_append]; omega) | (simp only [List.length_set, List.length_replicate, List.length_map, List.length_append, bys_length, u32s_length, u64s_length, i64s_length, List.length_take, List.length_drop, List.length_cons, List.length_nil, *] <;> first | done | omega) | rfl) ?_) | (refine l_store1 0 rfl rfl rfl sz31 rfl (by first | decide | simp) ?_)
    simp only [List.set_cons_zero, List.set_cons_succ]
    refine vl_nil ?_
    refine (qn_n (bl_n (th_n ?_)))
    refine VC_region ?_
    refine vl_v (q_move rfl) rfl ?_
    first | (refine vl_v (q_add_n (q := 1) rfl rfl (by omega)) rfl ?_) | (refine vl_v (q_add_i rfl rfl (by omega) (by omega)) rfl ?_)
    refine vl_v (q_assign rfl) rfl ?_
    refine vl_nil ?_
    refine (th_n ?_)
    refine ⟨i + 1, by omega, by omega, (Sub.cons (s := 1) rfl (Sub.cons (s := 2) rfl (Sub.cons (s := 3) rfl (Sub.cons (s := 4) rfl (Sub.nil _))))), fun w H => H⟩
  · skip
    have ht6 := of_decide_eq_false ht6
    obtain rfl : i = 16 := by omega
    refine VC_exit ?_
    refine (th_x (th_x (bl_xs (th_n ?_))))
    refine VC_seq ?_
    refine VC_region ?_
    first | (refine vl_v (q_idxA (m := 15) Try.underlying33 sz31 rfl rfl (by omega) (r := _) (by rw [Nat.mul_one, Nat.zero_add])) rfl ?_) | (refine vl_v (q_idxA (m := 15) Try.underlying33 sz31 rfl rfl (by omega) rfl) rfl ?_)
    first | (refine vl_v (q_load 0 Try.underlying31 rfl rfl rfl (n64s_at (by first | omega | with_reducible assumption | (simp only [bys_length, u32s_length, u64s_length, i64s_length, n64s_length, List.length_append]; omega) | (simp only [List.length_set, List.length_replicate, List.length_map, List.length_append, bys_length, u32s_length, u64s_length, i64s_length, List.length_take, List.length_drop, List.length_cons, List.length_nil, *] <;> first | done | omega) | rfl))) rfl ?_) | (refine vl_v (q_load 0 Try.underlying31 rfl rfl rfl rfl) rfl ?_)
    refine vl_v (q_rem_n (q := 32768) rfl rfl (by omega)) rfl ?_
    first | (refine vl_v (q_idxA (m := 15) Try.underlying33 sz31 rfl rfl (by omega) (r := _) (by rw [Nat.mul_one, Nat.zero_add])) rfl ?_) | (refine vl_v (q_idxA (m := 15) Try.underlying33 sz31 rfl rfl (by omega) rfl) rfl ?_)
    first | (refine l_stN 0 rfl rfl rfl sz31 (by first | omega | with_reducible assumption | (simp only [bys_length, u32s_length, u64s_length, i64s_length, n64s_length, List.length_append]; omega) | (simp only [List.length_set, List.length_replicate, List.length_map, List.length_append, bys_length, u32s_length, u64s_length, i64s_length, List.length_take, List.length_drop, List.length_cons, List.length_nil, *] <;> first | done | omega) | rfl) ?_) | (refine l_store1 0 rfl rfl rfl sz31 rfl (by first | decide | simp) ?_)
    simp only [List.set_cons_zero, List.set_cons_succ]
    refine vl_nil ?_
    refine (th_n ?_)
    refine VC_seq ?_
    rw [show (rofSt k 16).set 15 ((rofSt k 16).getD 15 0 % 32768) = rofL k from rfl]
    refine VC_region ?_
    first | (refine vl_v (q_loads 0 Try.underlying33 rfl rfl rfl sz33 (by first | omega | with_reducible assumption | (simp only [bys_length, u32s_length, u64s_length, i64s_length, n64s_length, List.length_append]; omega) | (simp only [List.length_set, List.length_replicate, List.length_map, List.length_append, bys_length, u32s_length, u64s_length, i64s_length, List.length_take, List.length_drop, List.length_cons, List.length_nil, *] <;> first | done | omega) | rfl)) rfl ?_) | (refine vl_v (q_loadsAt 0 Try.underlying33 rfl rfl rfl sz33 (by rfl) (by first | omega | with_reducible assumption | (simp only [bys_length, u32s_length, u64s_length, i64s_length, n64s_length, List.length_append]; omega) | (simp only [List.length_set, List.length_replicate, List.length_map, List.length_append, bys_length, u32s_length, u64s_length, i64s_length, List.length_take, List.length_drop, List.length_cons, List.length_nil, *] <;> first | done | omega) | rfl)) rfl ?_)
    refine l_storeA 1 rfl rfl rfl sz33 (by first | omega | with_reducible assumption | (simp only [bys_length, u32s_length, u64s_length, i64s_length, n64s_length, List.length_append]; omega) | (simp only [List.length_set, List.length_replicate, List.length_map, List.length_append, bys_length, u32s_length, u64s_length, i64s_length, List.length_take, List.length_drop, List.length_cons, List.length_nil, *] <;> first | done | omega) | rfl) (by first | with_reducible exact bys_one _ | with_reducible exact u32s_one _ | with_reducible exact u64s_one _ | with_reducible exact i64s_one _ | with_reducible exact n64s_one _ | exact bys_one _ | exact u32s_one _ | exact u64s_one _ | exact i64s_one _ | with_reducible assumption | exact one_all rfl | (refine app_one ?_ ?_ <;> first | exact bys_one _ | (simp; done))) (by first | omega | with_reducible assumption | (simp only [bys_length, u32s_length, u64s_length, i64s_length, n64s_length, List.length_append]; omega) | (simp only [List.length_set, List.length_replicate, List.length_map, List.length_append, bys_length, u32s_length, u64s_length, i64s_length, List.length_take, List.length_drop, List.length_cons, List.length_nil, *] <;> first | done | omega) | rfl) ?_
    simp only [List.set_cons_zero, List.set_cons_succ]
    refine vl_nil ?_
    refine (th_n ?_)
    refine VC_ret ?_
    refine ⟨_, resC1 1 rfl Try.underlying33 rfl rfl rfl sz33 (by first | omega | with_reducible assumption | (simp only [bys_length, u32s_length, u64s_length, i64s_length, n64s_length, List.length_append]; omega) | (simp only [List.length_set, List.length_replicate, List.length_map, List.length_append, bys_length, u32s_length, u64s_length, i64s_length, List.length_take, List.length_drop, List.length_cons, List.length_nil, *] <;> first | done | omega) | rfl), ?_⟩
    exact rfl
set_option maxHeartbeats 2000000 in
theorem carried_calls (n : List Nat) (hn : n.length = 16) (hM : ∀ j, j < 16 → n.getD j 0 ≤ 1152921504606846976) (w : World) :
    Calls Try.prog 28 #[.agg (n64s n).toArray] w fun e w' => e = .returned (.agg (n64s (rN n 4)).toArray) ∧ Kept [] w w' := by
  have hrl := rN_length n
  have hr4 := (hrl 4).trans hn
  refine enter (n := 33) (R := fun e L => e = .returned (.agg (n64s (rN n 4)).toArray)) [.agg (n64s n).toArray] Try.func28 rfl rfl rfl (St.refl w) ?_ (fun e w' L' h H => ⟨h, H.kept⟩)
  refine VC_seq ?_
  refine VC_region ?_
  refine l_boxA rfl rfl ?_
  intro b1
  refine l_allocA zr33 rfl ?_
  intro b2
  simp only [u64s_rep]
  refine vl_nil ?_
  refine (th_n ?_)
  refine VC_seq ?_
  refine VC_seq ?_
  refine VC_region ?_
  refine vl_v (q_assign rfl) rfl ?_
  refine vl_nil ?_
  refine (th_n ?_)
  refine VC_block ?_
  refine VC_loop (ι := Nat) (fun r => r ≤ 4) (fun r => [(1, vP b1 0), (2, vP b2 0), (3, vN r)]) (fun r => [.blk b1 33 (n64s (rN n r)), .blk b2 33 (n64s (List.replicate 16 0))]) (fun r => 4 - r) 0 (by omega) (Sub.cons (s := 1) rfl (Sub.cons (s := 2) rfl (Sub.cons (s := 3) rfl (Sub.nil _)))) (fun w H => St.pick H (ks := [1, 0]) (by decide) rfl) ?_
  rintro r hp
  have hl := (hrl r).trans hn
  have hMr := rN_bound hn hM r
  refine VC_seq ?_
  refine VC_seq ?_
  refine VC_region ?_
  refine vl_v (q_move rfl) rfl ?_
  first | (refine vl_v (q_lss_n (q := 4) Try.underlying3 rfl rfl) rfl ?_) | (refine vl_v (q_lss_k Try.underlying3 rfl rfl) rfl ?_)
  refine vl_nil ?_
  refine (th_n ?_)
  refine VC_cond rfl (fun ht8 => ?_) (fun ht8 => ?_)
  · skip
    have ht8 := of_decide_eq_true ht8
    refine VC_skip ?_
    refine (th_n ?_)
    refine VC_seq ?_
    refine VC_block ?_
    refine VC_seq ?_
    refine VC_region ?_
    refine vl_v (q_assign rfl) rfl ?_
    refine vl_nil ?_
    refine (th_n ?_)
    refine VC_seq ?_
    refine VC_seq ?_
    refine VC_region ?_
    refine vl_v (q_assign rfl) rfl ?_
    refine vl_nil ?_
    refine (th_n ?_)
    refine VC_block ?_
    refine VC_loop (ι := Nat) (fun i => i ≤ 16) (fun i => [(1, vP b1 0), (2, vP b2 0), (3, vN r), (4, vW (rrSt (rN n r) i).2), (5, vN i)]) (fun i => [.blk b1 33 (n64s (rrSt (rN n r) i).1), .blk b2 33 (n64s (List.replicate 16 0))]) (fun i => 16 - i) 0 (by omega) (Sub.cons (s := 1) rfl (Sub.cons (s := 2) rfl (Sub.cons (s := 3) rfl (Sub.cons (s := 4) rfl (Sub.cons (s := 5) rfl (Sub.nil _)))))) (fun w H => H) ?_
    rintro i hp
    have hli := (rrSt_length (rN n r) i).trans hl
    obtain ⟨hb1, hb2⟩ := rr_bound hl hMr i hp
    refine VC_seq ?_
    refine VC_seq ?_
    refine VC_region ?_
    refine vl_v (q_move rfl) rfl ?_
    first | (refine vl_v (q_lss_n (q := 16) Try.underlying3 rfl rfl) rfl ?_) | (refine vl_v (q_lss_k Try.underlying3 rfl rfl) rfl ?_)
    refine vl_nil ?_
    refine (th_n ?_)
    refine VC_cond rfl (fun ht12 => ?_) (fun ht12 => ?_)
    · skip
      have ht12 := of_decide_eq_true ht12
      refine VC_skip ?_
      refine (th_n ?_)
      refine VC_seq ?_
      refine VC_block ?_
      refine VC_seq ?_
      have ht12 : i < 16 := ht12
      have hbi := hb2 i ht12
      refine VC_region ?_
      refine vl_v (q_move rfl) rfl ?_
      first | (refine vl_v (q_idxA Try.underlying33 sz31 rfl rfl (by omega) (r := _) (by rw [Nat.mul_one, Nat.zero_add])) rfl ?_) | (refine vl_v (q_idxA Try.underlying33 sz31 rfl rfl (by omega) rfl) rfl ?_)
      first | (refine vl_v (q_load 0 Try.underlying31 rfl rfl rfl (n64s_at (by first | omega | with_reducible assumption | (simp only [bys_length, u32s_length, u64s_length, i64s_length, n64s_length, List.length_append]; omega) | (simp only [List.length_set, List.length_replicate, List.length_map, List.length_append, bys_length, u32s_length, u64s_length, i64s_length, List.length_take, List.length_drop, List.length_cons, List.length_nil, *] <;> first | done | omega) | rfl))) rfl ?_) | (refine vl_v (q_load 0 Try.underlying31 rfl rfl rfl rfl) rfl ?_)
      refine vl_v (q_move rfl) rfl ?_
      refine vl_v (q_add_w rfl rfl (by omega)) rfl ?_
      refine vl_v (q_assign rfl) rfl ?_
      refine vl_nil ?_
      refine (th_n ?_)
      refine VC_seq ?_
      refine VC_region ?_
      refine vl_v (q_move rfl) rfl ?_
      refine vl_v (q_move rfl) rfl ?_
      refine vl_v (q_rem_n (q := 65536) rfl rfl (by omega)) rfl ?_
      first | (refine vl_v (q_idxA Try.underlying33 sz31 rfl rfl (by omega) (r := _) (by rw [Nat.mul_one, Nat.zero_add])) rfl ?_) | (refine vl_v (q_idxA Try.underlying33 sz31 rfl rfl (by omega) rfl) rfl ?_)
      first | (refine l_stN 0 rfl rfl rfl sz31 (by first | omega | with_reducible assumption | (simp only [bys_length, u32s_length, u64s_length, i64s_length, n64s_length, List.length_append]; omega) | (simp only [List.length_set, List.length_replicate, List.length_map, List.length_append, bys_length, u32s_length, u64s_length, i64s_length, List.length_take, List.length_drop, List.length_cons, List.length_nil, *] <;> first | done | omega) | rfl) ?_) | (refine l_store1 0 rfl rfl rfl sz31 rfl (by first | decide | simp) ?_)
      simp only [List.set_cons_zero, List.set_cons_succ]
      refine vl_nil ?_
      refine (th_n ?_)
      refine VC_region ?_
      refine vl_v (q_move rfl) rfl ?_
      refine vl_v (q_quo_w (q := 65536) rfl rfl (by omega) (by omega)) rfl ?_
      refine vl_v (q_assign rfl) rfl ?_
      refine vl_nil ?_
      refine (bl_n (th_n ?_))
      refine VC_region ?_
      refine vl_v (q_move rfl) rfl ?_
      first | (refine vl_v (q_add_n (q := 1) rfl rfl (by omega)) rfl ?_) | (refine vl_v (q_add_i rfl rfl (by omega) (by omega)) rfl ?_)
      refine vl_v (q_assign rfl) rfl ?_
      refine vl_nil ?_
      refine (th_n ?_)
      refine ⟨i + 1, by omega, by omega, (Sub.cons (s := 1) rfl (Sub.cons (s := 2) rfl (Sub.cons (s := 3) rfl (Sub.cons (s := 4) rfl (Sub.cons (s := 5) rfl (Sub.nil _)))))), fun w H => H⟩
    · skip
      have ht12 := of_decide_eq_false ht12
      obtain rfl : i = 16 := by omega
      have hb0 := hb2 0 (by omega)
      refine VC_exit ?_
      refine (th_x (th_x (bl_xs (th_n ?_))))
      refine VC_region ?_
      first | (refine vl_v (q_idxA (m := 0) Try.underlying33 sz31 rfl rfl (by omega) (r := _) (by rw [Nat.mul_one, Nat.zero_add])) rfl ?_) | (refine vl_v (q_idxA (m := 0) Try.underlying33 sz31 rfl rfl (by omega) rfl) rfl ?_)
      first | (refine vl_v (q_load 0 Try.underlying31 rfl rfl rfl (n64s_at (by first | omega | with_reducible assumption | (simp only [bys_length, u32s_length, u64s_length, i64s_length, n64s_length, List.length_append]; omega) | (simp only [List.length_set, List.length_replicate, List.length_map, List.length_append, bys_length, u32s_length, u64s_length, i64s_length, List.length_take, List.length_drop, List.length_cons, List.length_nil, *] <;> first | done | omega) | rfl))) rfl ?_) | (refine vl_v (q_load 0 Try.underlying31 rfl rfl rfl rfl) rfl ?_)
      refine vl_v (q_move rfl) rfl ?_
      refine vl_v (q_mul_w (p := 38) rfl rfl (by omega)) rfl ?_
      refine vl_v (q_add_w rfl rfl (by omega)) rfl ?_
      first | (refine vl_v (q_idxA (m := 0) Try.underlying33 sz31 rfl rfl (by omega) (r := _) (by rw [Nat.mul_one, Nat.zero_add])) rfl ?_) | (refine vl_v (q_idxA (m := 0) Try.underlying33 sz31 rfl rfl (by omega) rfl) rfl ?_)
      first | (refine l_stN 0 rfl rfl rfl sz31 (by first | omega | with_reducible assumption | (simp only [bys_length, u32s_length, u64s_length, i64s_length, n64s_length, List.length_append]; omega) | (simp only [List.length_set, List.length_replicate, List.length_map, List.length_append, bys_length, u32s_length, u64s_length, i64s_length, List.length_take, List.length_drop, List.length_cons, List.length_nil, *] <;> first | done | omega) | rfl) ?_) | (refine l_store1 0 rfl rfl rfl sz31 rfl (by first | decide | simp) ?_)
      simp only [List.set_cons_zero, List.set_cons_succ]
      refine vl_nil ?_
      refine (bl_n (th_n ?_))
      refine VC_region ?_
      refine vl_v (q_move rfl) rfl ?_
      first | (refine vl_v (q_add_n (q := 1) rfl rfl (by omega)) rfl ?_) | (refine vl_v (q_add_i rfl rfl (by omega) (by omega)) rfl ?_)
      refine vl_v (q_assign rfl) rfl ?_
      refine vl_nil ?_
      refine (th_n ?_)
      refine ⟨r + 1, by omega, by omega, (Sub.cons (s := 1) rfl (Sub.cons (s := 2) rfl (Sub.cons (s := 3) rfl (Sub.nil _)))), fun w H => H⟩
  · skip
    have ht8 := of_decide_eq_false ht8
    obtain rfl : r = 4 := by omega
    refine VC_exit ?_
    refine (th_x (th_x (bl_xs (th_n ?_))))
    refine VC_seq ?_
    refine VC_region ?_
    first | (refine vl_v (q_loads 0 Try.underlying33 rfl rfl rfl sz33 (by first | omega | with_reducible assumption | (simp only [bys_length, u32s_length, u64s_length, i64s_length, n64s_length, List.length_append]; omega) | (simp only [List.length_set, List.length_replicate, List.length_map, List.length_append, bys_length, u32s_length, u64s_length, i64s_length, List.length_take, List.length_drop, List.length_cons, List.length_nil, *] <;> first | done | omega) | rfl)) rfl ?_) | (refine vl_v (q_loadsAt 0 Try.underlying33 rfl rfl rfl sz33 (by rfl) (by first | omega | with_reducible assumption | (simp only [bys_length, u32s_length, u64s_length, i64s_length, n64s_length, List.length_append]; omega) | (simp only [List.length_set, List.length_replicate, List.length_map, List.length_append, bys_length, u32s_length, u64s_length, i64s_length, List.length_take, List.length_drop, List.length_cons, List.length_nil, *] <;> first | done | omega) | rfl)) rfl ?_)
    refine l_storeA 1 rfl rfl rfl sz33 (by first | omega | with_reducible assumption | (simp only [bys_length, u32s_length, u64s_length, i64s_length, n64s_length, List.length_append]; omega) | (simp only [List.length_set, List.length_replicate, List.length_map, List.length_append, bys_length, u32s_length, u64s_length, i64s_length, List.length_take, List.length_drop, List.length_cons, List.length_nil, *] <;> first | done | omega) | rfl) (by first | with_reducible exact bys_one _ | with_reducible exact u32s_one _ | with_reducible exact u64s_one _ | with_reducible exact i64s_one _ | with_reducible exact n64s_one _ | exact bys_one _ | exact u32s_one _ | exact u64s_one _ | exact i64s_one _ | with_reducible assumption | exact one_all rfl | (refine app_one ?_ ?_ <;> first | exact bys_one _ | (simp; done))) (by first | omega | with_reducible assumption | (simp only [bys_length, u32s_length, u64s_length, i64s_length, n64s_length, List.length_append]; omega) | (simp only [List.length_set, List.length_replicate, List.length_map, List.length_append, bys_length, u32s_length, u64s_length, i64s_length, List.length_take, List.length_drop, List.length_cons, List.length_nil, *] <;> first | done | omega) | rfl) ?_
    simp only [List.set_cons_zero, List.set_cons_succ]
    refine vl_nil ?_
    refine (th_n ?_)
    refine VC_ret ?_
    refine ⟨_, resC1 1 rfl Try.underlying33 rfl rfl rfl sz33 (by first | omega | with_reducible assumption | (simp only [bys_length, u32s_length, u64s_length, i64s_length, n64s_length, List.length_append]; omega) | (simp only [List.length_set, List.length_replicate, List.length_map, List.length_append, bys_length, u32s_length, u64s_length, i64s_length, List.length_take, List.length_drop, List.length_cons, List.length_nil, *] <;> first | done | omega) | rfl), ?_⟩
    exact rfl
set_option maxHeartbeats 2000000 in
theorem radd_calls (a b : List Nat) (ha : digN a) (hb : digN b) (w : World) :
    Calls Try.prog 24 #[.agg (n64s a).toArray, .agg (n64s b).toArray] w fun e w' => e = .returned (.agg (n64s (raddL a b)).toArray) ∧ Kept [] w w' := by
  have hal := ha.1
  have hbl := hb.1
  have hrl := (raddL_dig ha hb).1
  refine enter (n := 21) (R := fun e L => e = .returned (.agg (n64s (raddL a b)).toArray)) [.agg (n64s a).toArray, .agg (n64s b).toArray] Try.func24 rfl rfl rfl (St.refl w) ?_ (fun e w' L' h H => ⟨h, H.kept⟩)
  refine VC_seq ?_
  refine VC_region ?_
  refine l_boxA rfl rfl ?_
  intro b2
  refine l_boxA rfl rfl ?_
  intro b3
  refine l_allocA zr33 rfl ?_
  intro b4
  simp only [u64s_rep]
  refine vl_nil ?_
  refine (th_n ?_)
  refine VC_seq ?_
  refine VC_seq ?_
  refine VC_region ?_
  refine vl_v (q_assign rfl) rfl ?_
  refine vl_nil ?_
  refine (th_n ?_)
  refine VC_block ?_
  refine VC_loop (ι := Nat) (fun i => i ≤ 16) (fun i => [(2, vP b2 0), (3, vP b3 0), (4, vP b4 0), (5, vN i)]) (fun i => [.blk b2 33 (n64s (raddSt a b i)), .blk b4 33 (n64s (List.replicate 16 0)), .blk b3 33 (n64s b)]) (fun i => 16 - i) 0 (by omega) (Sub.cons (s := 2) rfl (Sub.cons (s := 3) rfl (Sub.cons (s := 4) rfl (Sub.cons (s := 5) rfl (Sub.nil _))))) (fun w H => St.pick H (ks := [2, 0, 1]) (by decide) rfl) ?_
  rintro i hp
  have hl := (raddSt_length a b i).trans hal
  refine VC_seq ?_
  refine VC_seq ?_
  refine VC_region ?_
  refine vl_v (q_move rfl) rfl ?_
  first | (refine vl_v (q_lss_n (q := 16) Try.underlying3 rfl rfl) rfl ?_) | (refine vl_v (q_lss_k Try.underlying3 rfl rfl) rfl ?_)
  refine vl_nil ?_
  refine (th_n ?_)
  refine VC_cond rfl (fun ht7 => ?_) (fun ht7 => ?_)
  · skip
    have ht7 := of_decide_eq_true ht7
    refine VC_skip ?_
    refine (th_n ?_)
    refine VC_seq ?_
    refine VC_block ?_
    have ht7 : i < 16 := ht7
    have h1 := ha.2 i ht7
    have h2 := hb.2 i ht7
    have hg := cz_get (raddSt a b i) i
    rw [cz_raddSt, addSt_get ((cz_length a).trans hal) i (by omega), if_neg (by omega), cz_get] at hg
    refine VC_drawV 8 [[], [], [1], [2], [], [4], [5], [3, 6], [0, 1, 2, 3, 4, 5, 6, 7], [8, 7, 0, 1, 2, 3, 4, 5, 6]] [[], [], [1], [1, 2], [], [4], [4, 5], [1, 2, 3, 4, 5, 6], [0, 1, 2, 3, 4, 5, 6, 7], [0, 1, 2, 3, 4, 5, 6, 7, 8]] rfl (by kernel_rfl) ?_
    refine qv_v (q_move rfl) ?_
    refine qv_v (q_move rfl) ?_
    first | (refine qv_v (q_idxA Try.underlying33 sz31 rfl rfl (by omega) (r := _) (by rw [Nat.mul_one, Nat.zero_add])) ?_) | (refine qv_v (q_idxA Try.underlying33 sz31 rfl rfl (by omega) rfl) ?_)
    first | (refine qv_v (q_load 0 Try.underlying31 rfl rfl rfl (n64s_at (by first | omega | with_reducible assumption | (simp only [bys_length, u32s_length, u64s_length, i64s_length, n64s_length, List.length_append]; omega) | (simp only [List.length_set, List.length_replicate, List.length_map, List.length_append, bys_length, u32s_length, u64s_length, i64s_length, List.length_take, List.length_drop, List.length_cons, List.length_nil, *] <;> first | done | omega) | rfl))) ?_) | (refine qv_v (q_load 0 Try.underlying31 rfl rfl rfl rfl) ?_)
    refine qv_v (q_move rfl) ?_
    first | (refine qv_v (q_idxA Try.underlying33 sz31 rfl rfl (by omega) (r := _) (by rw [Nat.mul_one, Nat.zero_add])) ?_) | (refine qv_v (q_idxA Try.underlying33 sz31 rfl rfl (by omega) rfl) ?_)
    first | (refine qv_v (q_load 2 Try.underlying31 rfl rfl rfl (n64s_at (by first | omega | with_reducible assumption | (simp only [bys_length, u32s_length, u64s_length, i64s_length, n64s_length, List.length_append]; omega) | (simp only [List.length_set, List.length_replicate, List.length_map, List.length_append, bys_length, u32s_length, u64s_length, i64s_length, List.length_take, List.length_drop, List.length_cons, List.length_nil, *] <;> first | done | omega) | rfl))) ?_) | (refine qv_v (q_load 2 Try.underlying31 rfl rfl rfl rfl) ?_)
    refine qv_v (q_add_w rfl rfl (by omega)) ?_
    refine qv_end ?_
    refine VL.keep (Sub.cons (s := 2) rfl (Sub.cons (s := 3) rfl (Sub.cons (s := 4) rfl (Sub.cons (s := 5) rfl (Sub.cons (s := 7) rfl (Sub.cons (s := 10) rfl (Sub.cons (s := 17) rfl (Sub.nil _)))))))) ?_
    first | (refine vl_v (q_idxA Try.underlying33 sz31 rfl rfl (by omega) (r := _) (by rw [Nat.mul_one, Nat.zero_add])) rfl ?_) | (refine vl_v (q_idxA Try.underlying33 sz31 rfl rfl (by omega) rfl) rfl ?_)
    first | (refine l_stN 0 rfl rfl rfl sz31 (by first | omega | with_reducible assumption | (simp only [bys_length, u32s_length, u64s_length, i64s_length, n64s_length, List.length_append]; omega) | (simp only [List.length_set, List.length_replicate, List.length_map, List.length_append, bys_length, u32s_length, u64s_length, i64s_length, List.length_take, List.length_drop, List.length_cons, List.length_nil, *] <;> first | done | omega) | rfl) ?_) | (refine l_store1 0 rfl rfl rfl sz31 rfl (by first | decide | simp) ?_)
    simp only [List.set_cons_zero, List.set_cons_succ]
    refine vl_nil ?_
    refine (qn_n (bl_n (th_n ?_)))
    refine VC_region ?_
    refine vl_v (q_move rfl) rfl ?_
    first | (refine vl_v (q_add_n (q := 1) rfl rfl (by omega)) rfl ?_) | (refine vl_v (q_add_i rfl rfl (by omega) (by omega)) rfl ?_)
    refine vl_v (q_assign rfl) rfl ?_
    refine vl_nil ?_
    refine (th_n ?_)
    refine ⟨i + 1, by omega, by omega, (Sub.cons (s := 2) rfl (Sub.cons (s := 3) rfl (Sub.cons (s := 4) rfl (Sub.cons (s := 5) rfl (Sub.nil _))))), fun w H => H⟩
  · skip
    have ht7 := of_decide_eq_false ht7
    obtain rfl : i = 16 := by omega
    refine VC_exit ?_
    refine (th_x (th_x (bl_xs (th_n ?_))))
    refine VC_seq ?_
    refine VC_region ?_
    first | (refine vl_v (q_loads 0 Try.underlying33 rfl rfl rfl sz33 (by first | omega | with_reducible assumption | (simp only [bys_length, u32s_length, u64s_length, i64s_length, n64s_length, List.length_append]; omega) | (simp only [List.length_set, List.length_replicate, List.length_map, List.length_append, bys_length, u32s_length, u64s_length, i64s_length, List.length_take, List.length_drop, List.length_cons, List.length_nil, *] <;> first | done | omega) | rfl)) rfl ?_) | (refine vl_v (q_loadsAt 0 Try.underlying33 rfl rfl rfl sz33 (by rfl) (by first | omega | with_reducible assumption | (simp only [bys_length, u32s_length, u64s_length, i64s_length, n64s_length, List.length_append]; omega) | (simp only [List.length_set, List.length_replicate, List.length_map, List.length_append, bys_length, u32s_length, u64s_length, i64s_length, List.length_take, List.length_drop, List.length_cons, List.length_nil, *] <;> first | done | omega) | rfl)) rfl ?_)
    refine vl_v (q_callV Try.func28 rfl rfl rfl (fun w1 H1 => carried_calls (raddSt a b 16) hl (fun j hj => by have := radd_bound ha hb j hj; omega) w1)) rfl ?_
    rw [show rN (raddSt a b 16) 4 = raddL a b from rfl]
    refine l_storeA 1 rfl rfl rfl sz33 (by first | omega | with_reducible assumption | (simp only [bys_length, u32s_length, u64s_length, i64s_length, n64s_length, List.length_append]; omega) | (simp only [List.length_set, List.length_replicate, List.length_map, List.length_append, bys_length, u32s_length, u64s_length, i64s_length, List.length_take, List.length_drop, List.length_cons, List.length_nil, *] <;> first | done | omega) | rfl) (by first | with_reducible exact bys_one _ | with_reducible exact u32s_one _ | with_reducible exact u64s_one _ | with_reducible exact i64s_one _ | with_reducible exact n64s_one _ | exact bys_one _ | exact u32s_one _ | exact u64s_one _ | exact i64s_one _ | with_reducible assumption | exact one_all rfl | (refine app_one ?_ ?_ <;> first | exact bys_one _ | (simp; done))) (by first | omega | with_reducible assumption | (simp only [bys_length, u32s_length, u64s_length, i64s_length, n64s_length, List.length_append]; omega) | (simp only [List.length_set, List.length_replicate, List.length_map, List.length_append, bys_length, u32s_length, u64s_length, i64s_length, List.length_take, List.length_drop, List.length_cons, List.length_nil, *] <;> first | done | omega) | rfl) ?_
    simp only [List.set_cons_zero, List.set_cons_succ]
    refine vl_nil ?_
    refine (th_n ?_)
    refine VC_ret ?_
    refine ⟨_, resC1 1 rfl Try.underlying33 rfl rfl rfl sz33 (by first | omega | with_reducible assumption | (simp only [bys_length, u32s_length, u64s_length, i64s_length, n64s_length, List.length_append]; omega) | (simp only [List.length_set, List.length_replicate, List.length_map, List.length_append, bys_length, u32s_length, u64s_length, i64s_length, List.length_take, List.length_drop, List.length_cons, List.length_nil, *] <;> first | done | omega) | rfl), ?_⟩
    exact rfl
set_option maxHeartbeats 2000000 in
theorem rsub_calls (a b : List Nat) (ha : digN a) (hb : digN b) (w : World) :
    Calls Try.prog 25 #[.agg (n64s a).toArray, .agg (n64s b).toArray] w fun e w' => e = .returned (.agg (n64s (rsubL a b)).toArray) ∧ Kept [] w w' := by
  have hal := ha.1
  have hbl := hb.1
  have hrl := (rsubL_dig ha hb).1
  refine enter (n := 26) (R := fun e L => e = .returned (.agg (n64s (rsubL a b)).toArray)) [.agg (n64s a).toArray, .agg (n64s b).toArray] Try.func25 rfl rfl rfl (St.refl w) ?_ (fun e w' L' h H => ⟨h, H.kept⟩)
  refine VC_seq ?_
  refine VC_region ?_
  refine l_boxA rfl rfl ?_
  intro b2
  refine l_boxA rfl rfl ?_
  intro b3
  refine l_allocA zr33 rfl ?_
  intro b4
  simp only [u64s_rep]
  refine vl_nil ?_
  refine (th_n ?_)
  refine VC_seq ?_
  refine VC_seq ?_
  refine VC_region ?_
  refine vl_v (q_assign rfl) rfl ?_
  refine vl_nil ?_
  refine (th_n ?_)
  refine VC_block ?_
  refine VC_loop (ι := Nat) (fun i => i ≤ 16) (fun i => [(2, vP b2 0), (3, vP b3 0), (4, vP b4 0), (5, vN i)]) (fun i => [.blk b2 33 (n64s (rsubSt a b i)), .blk b4 33 (n64s (List.replicate 16 0)), .blk b3 33 (n64s b)]) (fun i => 16 - i) 0 (by omega) (Sub.cons (s := 2) rfl (Sub.cons (s := 3) rfl (Sub.cons (s := 4) rfl (Sub.cons (s := 5) rfl (Sub.nil _))))) (fun w H => St.pick H (ks := [2, 0, 1]) (by decide) rfl) ?_
  rintro i hp
  have hl := (rsubSt_length a b i).trans hal
  refine VC_seq ?_
  refine VC_seq ?_
  refine VC_region ?_
  refine vl_v (q_move rfl) rfl ?_
  first | (refine vl_v (q_lss_n (q := 16) Try.underlying3 rfl rfl) rfl ?_) | (refine vl_v (q_lss_k Try.underlying3 rfl rfl) rfl ?_)
  refine vl_nil ?_
  refine (th_n ?_)
  refine VC_cond rfl (fun ht8 => ?_) (fun ht8 => ?_)
  · skip
    have ht8 := of_decide_eq_true ht8
    refine VC_skip ?_
    refine (th_n ?_)
    refine VC_seq ?_
    refine VC_block ?_
    refine VC_seq ?_
    refine VC_region ?_
    have ht8 : i < 16 := ht8
    have h1 := ha.2 i ht8
    have h2 := hb.2 i ht8
    have h3 : 130996 ≤ fourN i ∧ fourN i ≤ 131070 := by unfold fourN; split <;> omega
    have hg := rsubSt_get (b := b) hal i (by omega) i
    rw [if_neg (show ¬ i < i by omega)] at hg
    refine vl_v (q_assign rfl) rfl ?_
    refine vl_nil ?_
    refine (th_n ?_)
    refine VC_seq ?_
    refine VC_seq ?_
    refine VC_region ?_
    refine vl_v (q_move rfl) rfl ?_
    first | (refine vl_v (q_eql_n (q := 0) Try.underlying3 rfl rfl) rfl ?_) | (refine vl_v (q_eql_k Try.underlying3 rfl rfl) rfl ?_)
    refine vl_nil ?_
    refine (th_n ?_)
    refine VC_cond rfl (fun ht12 => ?_) (fun ht12 => ?_)
    · skip
      have ht12 : i = 0 := of_decide_eq_true ht12
      refine VC_region ?_
      refine vl_v (q_as (v := vW (fourN i)) (q_assign rfl) (by rw [ht12]; rfl)) rfl ?_
      refine vl_nil ?_
      refine (th_n ?_)
      refine VC_drawV 10 [[], [], [1], [2], [], [3, 4], [], [6], [7], [5, 8], [0, 1, 2, 3, 4, 5, 6, 7, 8, 9], [10, 9, 0, 1, 2, 3, 4, 5, 6, 7, 8]] [[], [], [1], [1, 2], [], [1, 2, 3, 4], [], [6], [6, 7], [1, 2, 3, 4, 5, 6, 7, 8], [0, 1, 2, 3, 4, 5, 6, 7, 8, 9], [0, 1, 2, 3, 4, 5, 6, 7, 8, 9, 10]] rfl (by kernel_rfl) ?_
      refine qv_v (q_move rfl) ?_
      refine qv_v (q_move rfl) ?_
      first | (refine qv_v (q_idxA Try.underlying33 sz31 rfl rfl (by omega) (r := _) (by rw [Nat.mul_one, Nat.zero_add])) ?_) | (refine qv_v (q_idxA Try.underlying33 sz31 rfl rfl (by omega) rfl) ?_)
      first | (refine qv_v (q_load 0 Try.underlying31 rfl rfl rfl (n64s_at (by first | omega | with_reducible assumption | (simp only [bys_length, u32s_length, u64s_length, i64s_length, n64s_length, List.length_append]; omega) | (simp only [List.length_set, List.length_replicate, List.length_map, List.length_append, bys_length, u32s_length, u64s_length, i64s_length, List.length_take, List.length_drop, List.length_cons, List.length_nil, *] <;> first | done | omega) | rfl))) ?_) | (refine qv_v (q_load 0 Try.underlying31 rfl rfl rfl rfl) ?_)
      refine qv_v (q_as (v := vW (fourN i)) (q_move rfl) (by first | rfl | (unfold fourN; rw [if_neg ht12]; rfl))) ?_
      refine qv_v (q_add_w rfl rfl (by omega)) ?_
      refine qv_v (q_move rfl) ?_
      first | (refine qv_v (q_idxA Try.underlying33 sz31 rfl rfl (by omega) (r := _) (by rw [Nat.mul_one, Nat.zero_add])) ?_) | (refine qv_v (q_idxA Try.underlying33 sz31 rfl rfl (by omega) rfl) ?_)
      first | (refine qv_v (q_load 2 Try.underlying31 rfl rfl rfl (n64s_at (by first | omega | with_reducible assumption | (simp only [bys_length, u32s_length, u64s_length, i64s_length, n64s_length, List.length_append]; omega) | (simp only [List.length_set, List.length_replicate, List.length_map, List.length_append, bys_length, u32s_length, u64s_length, i64s_length, List.length_take, List.length_drop, List.length_cons, List.length_nil, *] <;> first | done | omega) | rfl))) ?_) | (refine qv_v (q_load 2 Try.underlying31 rfl rfl rfl rfl) ?_)
      refine qv_v (q_sub_w rfl rfl (by omega) (by omega)) ?_
      refine qv_end ?_
      refine VL.keep (Sub.cons (s := 2) rfl (Sub.cons (s := 3) rfl (Sub.cons (s := 4) rfl (Sub.cons (s := 5) rfl (Sub.cons (s := 8) rfl (Sub.cons (s := 6) rfl (Sub.cons (s := 12) rfl (Sub.cons (s := 13) rfl (Sub.cons (s := 22) rfl (Sub.nil _)))))))))) ?_
      first | (refine vl_v (q_idxA Try.underlying33 sz31 rfl rfl (by omega) (r := _) (by rw [Nat.mul_one, Nat.zero_add])) rfl ?_) | (refine vl_v (q_idxA Try.underlying33 sz31 rfl rfl (by omega) rfl) rfl ?_)
      first | (refine l_stN 0 rfl rfl rfl sz31 (by first | omega | with_reducible assumption | (simp only [bys_length, u32s_length, u64s_length, i64s_length, n64s_length, List.length_append]; omega) | (simp only [List.length_set, List.length_replicate, List.length_map, List.length_append, bys_length, u32s_length, u64s_length, i64s_length, List.length_take, List.length_drop, List.length_cons, List.length_nil, *] <;> first | done | omega) | rfl) ?_) | (refine l_store1 0 rfl rfl rfl sz31 rfl (by first | decide | simp) ?_)
      simp only [List.set_cons_zero, List.set_cons_succ]
      refine vl_nil ?_
      refine (qn_n (bl_n (th_n ?_)))
      refine VC_region ?_
      refine vl_v (q_move rfl) rfl ?_
      first | (refine vl_v (q_add_n (q := 1) rfl rfl (by omega)) rfl ?_) | (refine vl_v (q_add_i rfl rfl (by omega) (by omega)) rfl ?_)
      refine vl_v (q_assign rfl) rfl ?_
      refine vl_nil ?_
      refine (th_n ?_)
      refine ⟨i + 1, by omega, by omega, (Sub.cons (s := 2) rfl (Sub.cons (s := 3) rfl (Sub.cons (s := 4) rfl (Sub.cons (s := 5) rfl (Sub.nil _))))), fun w H => H⟩
    · skip
      have ht12 : ¬ i = 0 := of_decide_eq_false ht12
      refine VC_skip ?_
      refine (th_n ?_)
      refine VC_drawV 10 [[], [], [1], [2], [], [3, 4], [], [6], [7], [5, 8], [0, 1, 2, 3, 4, 5, 6, 7, 8, 9], [10, 9, 0, 1, 2, 3, 4, 5, 6, 7, 8]] [[], [], [1], [1, 2], [], [1, 2, 3, 4], [], [6], [6, 7], [1, 2, 3, 4, 5, 6, 7, 8], [0, 1, 2, 3, 4, 5, 6, 7, 8, 9], [0, 1, 2, 3, 4, 5, 6, 7, 8, 9, 10]] rfl (by kernel_rfl) ?_
      refine qv_v (q_move rfl) ?_
      refine qv_v (q_move rfl) ?_
      first | (refine qv_v (q_idxA Try.underlying33 sz31 rfl rfl (by omega) (r := _) (by rw [Nat.mul_one, Nat.zero_add])) ?_) | (refine qv_v (q_idxA Try.underlying33 sz31 rfl rfl (by omega) rfl) ?_)
      first | (refine qv_v (q_load 0 Try.underlying31 rfl rfl rfl (n64s_at (by first | omega | with_reducible assumption | (simp only [bys_length, u32s_length, u64s_length, i64s_length, n64s_length, List.length_append]; omega) | (simp only [List.length_set, List.length_replicate, List.length_map, List.length_append, bys_length, u32s_length, u64s_length, i64s_length, List.length_take, List.length_drop, List.length_cons, List.length_nil, *] <;> first | done | omega) | rfl))) ?_) | (refine qv_v (q_load 0 Try.underlying31 rfl rfl rfl rfl) ?_)
      refine qv_v (q_as (v := vW (fourN i)) (q_move rfl) (by first | rfl | (unfold fourN; rw [if_neg ht12]; rfl))) ?_
      refine qv_v (q_add_w rfl rfl (by omega)) ?_
      refine qv_v (q_move rfl) ?_
      first | (refine qv_v (q_idxA Try.underlying33 sz31 rfl rfl (by omega) (r := _) (by rw [Nat.mul_one, Nat.zero_add])) ?_) | (refine qv_v (q_idxA Try.underlying33 sz31 rfl rfl (by omega) rfl) ?_)
      first | (refine qv_v (q_load 2 Try.underlying31 rfl rfl rfl (n64s_at (by first | omega | with_reducible assumption | (simp only [bys_length, u32s_length, u64s_length, i64s_length, n64s_length, List.length_append]; omega) | (simp only [List.length_set, List.length_replicate, List.length_map, List.length_append, bys_length, u32s_length, u64s_length, i64s_length, List.length_take, List.length_drop, List.length_cons, List.length_nil, *] <;> first | done | omega) | rfl))) ?_) | (refine qv_v (q_load 2 Try.underlying31 rfl rfl rfl rfl) ?_)
      refine qv_v (q_sub_w rfl rfl (by omega) (by omega)) ?_
      refine qv_end ?_
      refine VL.keep (Sub.cons (s := 2) rfl (Sub.cons (s := 3) rfl (Sub.cons (s := 4) rfl (Sub.cons (s := 5) rfl (Sub.cons (s := 8) rfl (Sub.cons (s := 6) rfl (Sub.cons (s := 12) rfl (Sub.cons (s := 13) rfl (Sub.cons (s := 22) rfl (Sub.nil _)))))))))) ?_
      first | (refine vl_v (q_idxA Try.underlying33 sz31 rfl rfl (by omega) (r := _) (by rw [Nat.mul_one, Nat.zero_add])) rfl ?_) | (refine vl_v (q_idxA Try.underlying33 sz31 rfl rfl (by omega) rfl) rfl ?_)
      first | (refine l_stN 0 rfl rfl rfl sz31 (by first | omega | with_reducible assumption | (simp only [bys_length, u32s_length, u64s_length, i64s_length, n64s_length, List.length_append]; omega) | (simp only [List.length_set, List.length_replicate, List.length_map, List.length_append, bys_length, u32s_length, u64s_length, i64s_length, List.length_take, List.length_drop, List.length_cons, List.length_nil, *] <;> first | done | omega) | rfl) ?_) | (refine l_store1 0 rfl rfl rfl sz31 rfl (by first | decide | simp) ?_)
      simp only [List.set_cons_zero, List.set_cons_succ]
      refine vl_nil ?_
      refine (qn_n (bl_n (th_n ?_)))
      refine VC_region ?_
      refine vl_v (q_move rfl) rfl ?_
      first | (refine vl_v (q_add_n (q := 1) rfl rfl (by omega)) rfl ?_) | (refine vl_v (q_add_i rfl rfl (by omega) (by omega)) rfl ?_)
      refine vl_v (q_assign rfl) rfl ?_
      refine vl_nil ?_
      refine (th_n ?_)
      refine ⟨i + 1, by omega, by omega, (Sub.cons (s := 2) rfl (Sub.cons (s := 3) rfl (Sub.cons (s := 4) rfl (Sub.cons (s := 5) rfl (Sub.nil _))))), fun w H => H⟩
  · skip
    have ht8 := of_decide_eq_false ht8
    obtain rfl : i = 16 := by omega
    refine VC_exit ?_
    refine (th_x (th_x (bl_xs (th_n ?_))))
    refine VC_seq ?_
    refine VC_region ?_
    first | (refine vl_v (q_loads 0 Try.underlying33 rfl rfl rfl sz33 (by first | omega | with_reducible assumption | (simp only [bys_length, u32s_length, u64s_length, i64s_length, n64s_length, List.length_append]; omega) | (simp only [List.length_set, List.length_replicate, List.length_map, List.length_append, bys_length, u32s_length, u64s_length, i64s_length, List.length_take, List.length_drop, List.length_cons, List.length_nil, *] <;> first | done | omega) | rfl)) rfl ?_) | (refine vl_v (q_loadsAt 0 Try.underlying33 rfl rfl rfl sz33 (by rfl) (by first | omega | with_reducible assumption | (simp only [bys_length, u32s_length, u64s_length, i64s_length, n64s_length, List.length_append]; omega) | (simp only [List.length_set, List.length_replicate, List.length_map, List.length_append, bys_length, u32s_length, u64s_length, i64s_length, List.length_take, List.length_drop, List.length_cons, List.length_nil, *] <;> first | done | omega) | rfl)) rfl ?_)
    refine vl_v (q_callV Try.func28 rfl rfl rfl (fun w1 H1 => carried_calls (rsubSt a b 16) hl (fun j hj => by have := rsub_bound ha hb j hj; omega) w1)) rfl ?_
    rw [show rN (rsubSt a b 16) 4 = rsubL a b from rfl]
    refine l_storeA 1 rfl rfl rfl sz33 (by first | omega | with_reducible assumption | (simp only [bys_length, u32s_length, u64s_length, i64s_length, n64s_length, List.length_append]; omega) | (simp only [List.length_set, List.length_replicate, List.length_map, List.length_append, bys_length, u32s_length, u64s_length, i64s_length, List.length_take, List.length_drop, List.length_cons, List.length_nil, *] <;> first | done | omega) | rfl) (by first | with_reducible exact bys_one _ | with_reducible exact u32s_one _ | with_reducible exact u64s_one _ | with_reducible exact i64s_one _ | with_reducible exact n64s_one _ | exact bys_one _ | exact u32s_one _ | exact u64s_one _ | exact i64s_one _ | with_reducible assumption | exact one_all rfl | (refine app_one ?_ ?_ <;> first | exact bys_one _ | (simp; done))) (by first | omega | with_reducible assumption | (simp only [bys_length, u32s_length, u64s_length, i64s_length, n64s_length, List.length_append]; omega) | (simp only [List.length_set, List.length_replicate, List.length_map, List.length_append, bys_length, u32s_length, u64s_length, i64s_length, List.length_take, List.length_drop, List.length_cons, List.length_nil, *] <;> first | done | omega) | rfl) ?_
    simp only [List.set_cons_zero, List.set_cons_succ]
    refine vl_nil ?_
    refine (th_n ?_)
    refine VC_ret ?_
    refine ⟨_, resC1 1 rfl Try.underlying33 rfl rfl rfl sz33 (by first | omega | with_reducible assumption | (simp only [bys_length, u32s_length, u64s_length, i64s_length, n64s_length, List.length_append]; omega) | (simp only [List.length_set, List.length_replicate, List.length_map, List.length_append, bys_length, u32s_length, u64s_length, i64s_length, List.length_take, List.length_drop, List.length_cons, List.length_nil, *] <;> first | done | omega) | rfl), ?_⟩
    exact rfl
theorem nat_mul_le {x y : Nat} (hx : x ≤ 65535) (hy : y ≤ 65535) : x * y ≤ 4294836225 := Nat.mul_le_mul hx hy
theorem rmulIn_b {a b : List Nat} (ha : digN a) (hb : digN b) {i k : Nat} (hi : i < 16) (hk : k ≤ 16) (j : Nat) (hj : j < 32) : (rmulIn a b i (rmulOut a b i) k).getD j 0 ≤ 1000000000000000 := by
  have h := (mulIn_bound (i := i) ha.okE.all hb.okE.all (by omega) hi (mulOut_length (cz a) (cz b) i) (mulOut_bound ha.okE.all hb.okE.all (by omega) i (by omega)) k hk j hj).1
  rw [← cz_rmulOut, ← cz_rmulIn, cz_get] at h
  omega
theorem rmulOut_b {a b : List Nat} (ha : digN a) (hb : digN b) (j : Nat) (hj : j < 32) : (rmulOut a b 16).getD j 0 ≤ 1000000000000000 := by
  have h := mulOut_bound ha.okE.all hb.okE.all (by omega) 16 (by omega) j hj
  rw [← cz_rmulOut, cz_get] at h
  omega
set_option maxHeartbeats 4000000 in
theorem rmul_calls (a b : List Nat) (ha : digN a) (hb : digN b) (w : World) :
    Calls Try.prog 26 #[.agg (n64s a).toArray, .agg (n64s b).toArray] w fun e w' => e = .returned (.agg (n64s (rmulL a b)).toArray) ∧ Kept [] w w' := by
  have hal := ha.1
  have hbl := hb.1
  have hrl := (rmulL_dig ha hb).1
  have hml := rmulOut_length a b
  refine enter (n := 52) (R := fun e L => e = .returned (.agg (n64s (rmulL a b)).toArray)) [.agg (n64s a).toArray, .agg (n64s b).toArray] Try.func26 rfl rfl rfl (St.refl w) ?_ (fun e w' L' h H => ⟨h, H.kept⟩)
  refine VC_seq ?_
  refine VC_region ?_
  refine l_boxA rfl rfl ?_
  intro b2
  refine l_boxA rfl rfl ?_
  intro b3
  refine l_allocA zr33 rfl ?_
  intro b4
  simp only [u64s_rep]
  refine vl_nil ?_
  refine (th_n ?_)
  refine VC_seq ?_
  refine VC_region ?_
  refine l_allocA zr52 rfl ?_
  intro b5
  simp only [u64s_rep]
  refine vl_nil ?_
  refine (th_n ?_)
  refine VC_seq ?_
  refine VC_seq ?_
  refine VC_region ?_
  refine vl_v (q_assign rfl) rfl ?_
  refine vl_nil ?_
  refine (th_n ?_)
  refine VC_block ?_
  refine VC_loop (ι := Nat) (fun i => i ≤ 16) (fun i => [(2, vP b2 0), (3, vP b3 0), (4, vP b4 0), (5, vP b5 0), (6, vN i)]) (fun i => [.blk b5 52 (n64s (rmulOut a b i)), .blk b4 33 (n64s (List.replicate 16 0)), .blk b3 33 (n64s b), .blk b2 33 (n64s a)]) (fun i => 16 - i) 0 (by omega) (Sub.cons (s := 2) rfl (Sub.cons (s := 3) rfl (Sub.cons (s := 4) rfl (Sub.cons (s := 5) rfl (Sub.cons (s := 6) rfl (Sub.nil _)))))) (fun w H => H) ?_
  rintro i hp
  refine VC_seq ?_
  refine VC_seq ?_
  refine VC_region ?_
  refine vl_v (q_move rfl) rfl ?_
  first | (refine vl_v (q_lss_n (q := 16) Try.underlying3 rfl rfl) rfl ?_) | (refine vl_v (q_lss_k Try.underlying3 rfl rfl) rfl ?_)
  refine vl_nil ?_
  refine (th_n ?_)
  refine VC_cond rfl (fun ht11 => ?_) (fun ht11 => ?_)
  · skip
    have ht11 := of_decide_eq_true ht11
    refine VC_skip ?_
    refine (th_n ?_)
    refine VC_seq ?_
    refine VC_block ?_
    refine VC_seq ?_
    refine VC_region ?_
    refine vl_v (q_assign rfl) rfl ?_
    refine vl_nil ?_
    refine (th_n ?_)
    refine VC_block ?_
    refine VC_loop (ι := Nat) (fun k => k ≤ 16) (fun k => [(2, vP b2 0), (3, vP b3 0), (4, vP b4 0), (5, vP b5 0), (6, vN i), (7, vN k)]) (fun k => [.blk b5 52 (n64s (rmulIn a b i (rmulOut a b i) k)), .blk b4 33 (n64s (List.replicate 16 0)), .blk b3 33 (n64s b), .blk b2 33 (n64s a)]) (fun k => 16 - k) 0 (by omega) (Sub.cons (s := 2) rfl (Sub.cons (s := 3) rfl (Sub.cons (s := 4) rfl (Sub.cons (s := 5) rfl (Sub.cons (s := 6) rfl (Sub.cons (s := 7) rfl (Sub.nil _))))))) (fun w H => H) ?_
    rintro k hp
    have hil := (rmulIn_length a b i (rmulOut a b i) k).trans (hml i)
    refine VC_seq ?_
    refine VC_seq ?_
    refine VC_region ?_
    refine vl_v (q_move rfl) rfl ?_
    first | (refine vl_v (q_lss_n (q := 16) Try.underlying3 rfl rfl) rfl ?_) | (refine vl_v (q_lss_k Try.underlying3 rfl rfl) rfl ?_)
    refine vl_nil ?_
    refine (th_n ?_)
    refine VC_cond rfl (fun ht15 => ?_) (fun ht15 => ?_)
    · skip
      have ht15 := of_decide_eq_true ht15
      refine VC_skip ?_
      refine (th_n ?_)
      refine VC_seq ?_
      refine VC_block ?_
      have ht11 : i < 16 := ht11
      have ht15 : k < 16 := ht15
      have hmb := rmulIn_b ha hb ht11 (k := k) (by omega) (i + k) (by omega)
      have hpb := nat_mul_le (ha.2 i ht11) (hb.2 k ht15)
      refine VC_drawV 16 [[], [], [0, 1], [], [], [3, 4], [5], [6], [], [8], [9], [], [11], [12], [10, 13], [7, 14], [2, 0, 1, 3, 4, 5, 6, 7, 8, 9, 10, 11, 12, 13, 14, 15], [16, 15, 0, 1, 2, 3, 4, 5, 6, 7, 8, 9, 10, 11, 12, 13, 14]] [[], [], [0, 1], [], [], [3, 4], [3, 4, 5], [3, 4, 5, 6], [], [8], [8, 9], [], [11], [11, 12], [8, 9, 10, 11, 12, 13], [3, 4, 5, 6, 7, 8, 9, 10, 11, 12, 13, 14], [0, 1, 2, 3, 4, 5, 6, 7, 8, 9, 10, 11, 12, 13, 14, 15], [0, 1, 2, 3, 4, 5, 6, 7, 8, 9, 10, 11, 12, 13, 14, 15, 16]] rfl (by kernel_rfl) ?_
      refine qv_v (q_move rfl) ?_
      refine qv_v (q_move rfl) ?_
      first | (refine qv_v (q_add_n rfl rfl (by omega)) ?_) | (refine qv_v (q_add_i rfl rfl (by omega) (by omega)) ?_)
      refine qv_v (q_move rfl) ?_
      refine qv_v (q_move rfl) ?_
      first | (refine qv_v (q_add_n rfl rfl (by omega)) ?_) | (refine qv_v (q_add_i rfl rfl (by omega) (by omega)) ?_)
      first | (refine qv_v (q_idxA Try.underlying52 sz31 rfl rfl (by omega) (r := _) (by rw [Nat.mul_one, Nat.zero_add])) ?_) | (refine qv_v (q_idxA Try.underlying52 sz31 rfl rfl (by omega) rfl) ?_)
      first | (refine qv_v (q_load 0 Try.underlying31 rfl rfl rfl (n64s_at (by first | omega | with_reducible assumption | (simp only [bys_length, u32s_length, u64s_length, i64s_length, n64s_length, List.length_append]; omega) | (simp only [List.length_set, List.length_replicate, List.length_map, List.length_append, bys_length, u32s_length, u64s_length, i64s_length, List.length_take, List.length_drop, List.length_cons, List.length_nil, *] <;> first | done | omega) | rfl))) ?_) | (refine qv_v (q_load 0 Try.underlying31 rfl rfl rfl rfl) ?_)
      refine qv_v (q_move rfl) ?_
      first | (refine qv_v (q_idxA Try.underlying33 sz31 rfl rfl (by omega) (r := _) (by rw [Nat.mul_one, Nat.zero_add])) ?_) | (refine qv_v (q_idxA Try.underlying33 sz31 rfl rfl (by omega) rfl) ?_)
      first | (refine qv_v (q_load 3 Try.underlying31 rfl rfl rfl (n64s_at (by first | omega | with_reducible assumption | (simp only [bys_length, u32s_length, u64s_length, i64s_length, n64s_length, List.length_append]; omega) | (simp only [List.length_set, List.length_replicate, List.length_map, List.length_append, bys_length, u32s_length, u64s_length, i64s_length, List.length_take, List.length_drop, List.length_cons, List.length_nil, *] <;> first | done | omega) | rfl))) ?_) | (refine qv_v (q_load 3 Try.underlying31 rfl rfl rfl rfl) ?_)
      refine qv_v (q_move rfl) ?_
      first | (refine qv_v (q_idxA Try.underlying33 sz31 rfl rfl (by omega) (r := _) (by rw [Nat.mul_one, Nat.zero_add])) ?_) | (refine qv_v (q_idxA Try.underlying33 sz31 rfl rfl (by omega) rfl) ?_)
      first | (refine qv_v (q_load 2 Try.underlying31 rfl rfl rfl (n64s_at (by first | omega | with_reducible assumption | (simp only [bys_length, u32s_length, u64s_length, i64s_length, n64s_length, List.length_append]; omega) | (simp only [List.length_set, List.length_replicate, List.length_map, List.length_append, bys_length, u32s_length, u64s_length, i64s_length, List.length_take, List.length_drop, List.length_cons, List.length_nil, *] <;> first | done | omega) | rfl))) ?_) | (refine qv_v (q_load 2 Try.underlying31 rfl rfl rfl rfl) ?_)
      refine qv_v (q_mul_w rfl rfl (by omega)) ?_
      refine qv_v (q_add_w rfl rfl (by omega)) ?_
      refine qv_end ?_
      refine VL.keep (Sub.cons (s := 2) rfl (Sub.cons (s := 3) rfl (Sub.cons (s := 4) rfl (Sub.cons (s := 5) rfl (Sub.cons (s := 6) rfl (Sub.cons (s := 7) rfl (Sub.cons (s := 15) rfl (Sub.cons (s := 20) rfl (Sub.cons (s := 33) rfl (Sub.nil _)))))))))) ?_
      first | (refine vl_v (q_idxA Try.underlying52 sz31 rfl rfl (by omega) (r := _) (by rw [Nat.mul_one, Nat.zero_add])) rfl ?_) | (refine vl_v (q_idxA Try.underlying52 sz31 rfl rfl (by omega) rfl) rfl ?_)
      first | (refine l_stN 0 rfl rfl rfl sz31 (by first | omega | with_reducible assumption | (simp only [bys_length, u32s_length, u64s_length, i64s_length, n64s_length, List.length_append]; omega) | (simp only [List.length_set, List.length_replicate, List.length_map, List.length_append, bys_length, u32s_length, u64s_length, i64s_length, List.length_take, List.length_drop, List.length_cons, List.length_nil, *] <;> first | done | omega) | rfl) ?_) | (refine l_store1 0 rfl rfl rfl sz31 rfl (by first | decide | simp) ?_)
      simp only [List.set_cons_zero, List.set_cons_succ]
      refine vl_nil ?_
      refine (qn_n (bl_n (th_n ?_)))
      refine VC_region ?_
      refine vl_v (q_move rfl) rfl ?_
      first | (refine vl_v (q_add_n (q := 1) rfl rfl (by omega)) rfl ?_) | (refine vl_v (q_add_i rfl rfl (by omega) (by omega)) rfl ?_)
      refine vl_v (q_assign rfl) rfl ?_
      refine vl_nil ?_
      refine (th_n ?_)
      refine ⟨k + 1, by omega, by omega, (Sub.cons (s := 2) rfl (Sub.cons (s := 3) rfl (Sub.cons (s := 4) rfl (Sub.cons (s := 5) rfl (Sub.cons (s := 6) rfl (Sub.cons (s := 7) rfl (Sub.nil _))))))), fun w H => H⟩
    · skip
      have ht15 := of_decide_eq_false ht15
      obtain rfl : k = 16 := by omega
      refine VC_exit ?_
      refine (th_x (th_x (bl_xs (bl_n (th_n ?_)))))
      refine VC_region ?_
      refine vl_v (q_move rfl) rfl ?_
      first | (refine vl_v (q_add_n (q := 1) rfl rfl (by omega)) rfl ?_) | (refine vl_v (q_add_i rfl rfl (by omega) (by omega)) rfl ?_)
      refine vl_v (q_assign rfl) rfl ?_
      refine vl_nil ?_
      refine (th_n ?_)
      refine ⟨i + 1, by omega, by omega, (Sub.cons (s := 2) rfl (Sub.cons (s := 3) rfl (Sub.cons (s := 4) rfl (Sub.cons (s := 5) rfl (Sub.cons (s := 6) rfl (Sub.nil _)))))), fun w H => H⟩
  · skip
    have ht11 := of_decide_eq_false ht11
    obtain rfl : i = 16 := by omega
    have hml16 := hml 16
    refine VC_exit ?_
    refine (th_x (th_x (bl_xs (th_n ?_))))
    refine VC_seq ?_
    refine VC_region ?_
    refine l_allocA zr33 rfl ?_
    intro b8
    simp only [u64s_rep]
    refine vl_nil ?_
    refine (th_n ?_)
    refine VC_seq ?_
    refine VC_seq ?_
    refine VC_region ?_
    refine vl_v (q_assign rfl) rfl ?_
    refine vl_nil ?_
    refine (th_n ?_)
    refine VC_block ?_
    refine VC_loop (ι := Nat) (fun i => i ≤ 16) (fun i => [(4, vP b4 0), (5, vP b5 0), (8, vP b8 0), (9, vN i)]) (fun i => [.blk b8 33 (n64s (rfoldSt (rmulOut a b 16) i)), .blk b5 52 (n64s (rmulOut a b 16)), .blk b4 33 (n64s (List.replicate 16 0))]) (fun i => 16 - i) 0 (by omega) (Sub.cons (s := 4) rfl (Sub.cons (s := 5) rfl (Sub.cons (s := 8) rfl (Sub.cons (s := 9) rfl (Sub.nil _))))) (fun w H => St.pick H (ks := [0, 1, 2]) (by decide) rfl) ?_
    rintro i hp
    have hfo := rfoldSt_length (rmulOut a b 16) i
    refine VC_seq ?_
    refine VC_seq ?_
    refine VC_region ?_
    refine vl_v (q_move rfl) rfl ?_
    first | (refine vl_v (q_lss_n (q := 16) Try.underlying3 rfl rfl) rfl ?_) | (refine vl_v (q_lss_k Try.underlying3 rfl rfl) rfl ?_)
    refine vl_nil ?_
    refine (th_n ?_)
    refine VC_cond rfl (fun ht36 => ?_) (fun ht36 => ?_)
    · skip
      have ht36 := of_decide_eq_true ht36
      refine VC_skip ?_
      refine (th_n ?_)
      refine VC_seq ?_
      refine VC_block ?_
      have ht36 : i < 16 := ht36
      have hm1 := rmulOut_b ha hb i (by omega)
      have hm2 := rmulOut_b ha hb (i + 16) (by omega)
      refine VC_drawV 10 [[], [], [1], [2], [], [4], [5], [6], [7], [3, 8], [0, 1, 2, 3, 4, 5, 6, 7, 8, 9], [10, 9, 0, 1, 2, 3, 4, 5, 6, 7, 8]] [[], [], [1], [1, 2], [], [4], [4, 5], [4, 5, 6], [4, 5, 6, 7], [1, 2, 3, 4, 5, 6, 7, 8], [0, 1, 2, 3, 4, 5, 6, 7, 8, 9], [0, 1, 2, 3, 4, 5, 6, 7, 8, 9, 10]] rfl (by kernel_rfl) ?_
      refine qv_v (q_move rfl) ?_
      refine qv_v (q_move rfl) ?_
      first | (refine qv_v (q_idxA Try.underlying52 sz31 rfl rfl (by omega) (r := _) (by rw [Nat.mul_one, Nat.zero_add])) ?_) | (refine qv_v (q_idxA Try.underlying52 sz31 rfl rfl (by omega) rfl) ?_)
      first | (refine qv_v (q_load 1 Try.underlying31 rfl rfl rfl (n64s_at (by first | omega | with_reducible assumption | (simp only [bys_length, u32s_length, u64s_length, i64s_length, n64s_length, List.length_append]; omega) | (simp only [List.length_set, List.length_replicate, List.length_map, List.length_append, bys_length, u32s_length, u64s_length, i64s_length, List.length_take, List.length_drop, List.length_cons, List.length_nil, *] <;> first | done | omega) | rfl))) ?_) | (refine qv_v (q_load 1 Try.underlying31 rfl rfl rfl rfl) ?_)
      refine qv_v (q_move rfl) ?_
      first | (refine qv_v (q_add_n (q := 16) rfl rfl (by omega)) ?_) | (refine qv_v (q_add_i rfl rfl (by omega) (by omega)) ?_)
      first | (refine qv_v (q_idxA Try.underlying52 sz31 rfl rfl (by omega) (r := _) (by rw [Nat.mul_one, Nat.zero_add])) ?_) | (refine qv_v (q_idxA Try.underlying52 sz31 rfl rfl (by omega) rfl) ?_)
      first | (refine qv_v (q_load 1 Try.underlying31 rfl rfl rfl (n64s_at (by first | omega | with_reducible assumption | (simp only [bys_length, u32s_length, u64s_length, i64s_length, n64s_length, List.length_append]; omega) | (simp only [List.length_set, List.length_replicate, List.length_map, List.length_append, bys_length, u32s_length, u64s_length, i64s_length, List.length_take, List.length_drop, List.length_cons, List.length_nil, *] <;> first | done | omega) | rfl))) ?_) | (refine qv_v (q_load 1 Try.underlying31 rfl rfl rfl rfl) ?_)
      refine qv_v (q_mul_w (p := 38) rfl rfl (by omega)) ?_
      refine qv_v (q_add_w rfl rfl (by omega)) ?_
      refine qv_end ?_
      refine VL.keep (Sub.cons (s := 4) rfl (Sub.cons (s := 5) rfl (Sub.cons (s := 8) rfl (Sub.cons (s := 9) rfl (Sub.cons (s := 36) rfl (Sub.cons (s := 39) rfl (Sub.cons (s := 48) rfl (Sub.nil _)))))))) ?_
      first | (refine vl_v (q_idxA Try.underlying33 sz31 rfl rfl (by omega) (r := _) (by rw [Nat.mul_one, Nat.zero_add])) rfl ?_) | (refine vl_v (q_idxA Try.underlying33 sz31 rfl rfl (by omega) rfl) rfl ?_)
      first | (refine l_stN 0 rfl rfl rfl sz31 (by first | omega | with_reducible assumption | (simp only [bys_length, u32s_length, u64s_length, i64s_length, n64s_length, List.length_append]; omega) | (simp only [List.length_set, List.length_replicate, List.length_map, List.length_append, bys_length, u32s_length, u64s_length, i64s_length, List.length_take, List.length_drop, List.length_cons, List.length_nil, *] <;> first | done | omega) | rfl) ?_) | (refine l_store1 0 rfl rfl rfl sz31 rfl (by first | decide | simp) ?_)
      simp only [List.set_cons_zero, List.set_cons_succ]
      refine vl_nil ?_
      refine (qn_n (bl_n (th_n ?_)))
      refine VC_region ?_
      refine vl_v (q_move rfl) rfl ?_
      first | (refine vl_v (q_add_n (q := 1) rfl rfl (by omega)) rfl ?_) | (refine vl_v (q_add_i rfl rfl (by omega) (by omega)) rfl ?_)
      refine vl_v (q_assign rfl) rfl ?_
      refine vl_nil ?_
      refine (th_n ?_)
      refine ⟨i + 1, by omega, by omega, (Sub.cons (s := 4) rfl (Sub.cons (s := 5) rfl (Sub.cons (s := 8) rfl (Sub.cons (s := 9) rfl (Sub.nil _))))), fun w H => H⟩
    · skip
      have ht36 := of_decide_eq_false ht36
      obtain rfl : i = 16 := by omega
      refine VC_exit ?_
      refine (th_x (th_x (bl_xs (th_n ?_))))
      refine VC_seq ?_
      refine VC_region ?_
      first | (refine vl_v (q_loads 0 Try.underlying33 rfl rfl rfl sz33 (by first | omega | with_reducible assumption | (simp only [bys_length, u32s_length, u64s_length, i64s_length, n64s_length, List.length_append]; omega) | (simp only [List.length_set, List.length_replicate, List.length_map, List.length_append, bys_length, u32s_length, u64s_length, i64s_length, List.length_take, List.length_drop, List.length_cons, List.length_nil, *] <;> first | done | omega) | rfl)) rfl ?_) | (refine vl_v (q_loadsAt 0 Try.underlying33 rfl rfl rfl sz33 (by rfl) (by first | omega | with_reducible assumption | (simp only [bys_length, u32s_length, u64s_length, i64s_length, n64s_length, List.length_append]; omega) | (simp only [List.length_set, List.length_replicate, List.length_map, List.length_append, bys_length, u32s_length, u64s_length, i64s_length, List.length_take, List.length_drop, List.length_cons, List.length_nil, *] <;> first | done | omega) | rfl)) rfl ?_)
      refine vl_v (q_callV Try.func28 rfl rfl rfl (fun w1 H1 => carried_calls (rfoldSt (rmulOut a b 16) 16) hfo (rmul_bound ha hb) w1)) rfl ?_
      rw [show rN (rfoldSt (rmulOut a b 16) 16) 4 = rmulL a b from rfl]
      refine l_storeA 2 rfl rfl rfl sz33 (by first | omega | with_reducible assumption | (simp only [bys_length, u32s_length, u64s_length, i64s_length, n64s_length, List.length_append]; omega) | (simp only [List.length_set, List.length_replicate, List.length_map, List.length_append, bys_length, u32s_length, u64s_length, i64s_length, List.length_take, List.length_drop, List.length_cons, List.length_nil, *] <;> first | done | omega) | rfl) (by first | with_reducible exact bys_one _ | with_reducible exact u32s_one _ | with_reducible exact u64s_one _ | with_reducible exact i64s_one _ | with_reducible exact n64s_one _ | exact bys_one _ | exact u32s_one _ | exact u64s_one _ | exact i64s_one _ | with_reducible assumption | exact one_all rfl | (refine app_one ?_ ?_ <;> first | exact bys_one _ | (simp; done))) (by first | omega | with_reducible assumption | (simp only [bys_length, u32s_length, u64s_length, i64s_length, n64s_length, List.length_append]; omega) | (simp only [List.length_set, List.length_replicate, List.length_map, List.length_append, bys_length, u32s_length, u64s_length, i64s_length, List.length_take, List.length_drop, List.length_cons, List.length_nil, *] <;> first | done | omega) | rfl) ?_
      simp only [List.set_cons_zero, List.set_cons_succ]
      refine vl_nil ?_
      refine (th_n ?_)
      refine VC_ret ?_
      refine ⟨_, resC1 2 rfl Try.underlying33 rfl rfl rfl sz33 (by first | omega | with_reducible assumption | (simp only [bys_length, u32s_length, u64s_length, i64s_length, n64s_length, List.length_append]; omega) | (simp only [List.length_set, List.length_replicate, List.length_map, List.length_append, bys_length, u32s_length, u64s_length, i64s_length, List.length_take, List.length_drop, List.length_cons, List.length_nil, *] <;> first | done | omega) | rfl), ?_⟩
      exact rfl
end Go.Proofs.Ytjllcdgnmdieoaa
