/- What the functions of package field do: the number of bytes, sums, differences, products. Conditions: a number as it is kept. -/
import Derived.Test.YtjllcdgnmdieoaaC06
namespace Go.Proofs.Ytjllcdgnmdieoaa
open Go.RowKit Go.PBYtjllcdgnmdieoaa
set_option linter.unusedVariables false
set_option linter.unusedSimpArgs false
set_option maxRecDepth 10000

set_option maxHeartbeats 2000000 in
theorem of_calls (k : List UInt8) (hk : k.length = 32) (w : World) :
    Calls Try.prog 16 #[.agg (bys k).toArray] w fun e w' => e = .returned (.agg (i64s (ofL k)).toArray) ∧ Kept [] w w' := by
  have hol := (ofL_okE hk).1
  refine enter (n := 32) (R := fun e L => e = .returned (.agg (i64s (ofL k)).toArray)) [.agg (bys k).toArray] Try.func16 rfl rfl rfl (St.refl w) ?_ (fun e w' L' h H => ⟨h, H.kept⟩)
  refine VC_seq ?_
  refine VC_region ?_
  refine l_boxA rfl rfl ?_
  intro b1
  refine l_allocA zr37 rfl ?_
  intro b2
  refine vl_nil ?_
  refine (th_n ?_)
  refine VC_seq ?_
  refine VC_region ?_
  refine l_allocA zr37 rfl ?_
  intro b3
  refine vl_nil ?_
  refine (th_n ?_)
  refine VC_seq ?_
  refine VC_seq ?_
  refine VC_region ?_
  refine vl_v (q_move rfl) rfl ?_
  refine vl_nil ?_
  refine (th_n ?_)
  refine VC_block ?_
  refine VC_loop (ι := Nat) (fun i => i ≤ 16) (fun i => [(1, vP b1 0), (2, vP b2 0), (3, vP b3 0), (5, vN i)]) (fun i => [.blk b3 37 (i64s (ofSt k i)), .blk b2 37 (i64s (List.replicate 16 0)), .blk b1 23 (bys k)]) (fun i => 16 - i) 0 (by omega) (Sub.cons (s := 1) rfl (Sub.cons (s := 2) rfl (Sub.cons (s := 3) rfl (Sub.cons (s := 5) rfl (Sub.nil _))))) (fun w H => H) ?_
  rintro i hp
  have hl := ofSt_length k i
  refine VC_seq ?_
  refine VC_region ?_
  first | (refine vl_v (q_lss_n (q := 16) Try.underlying3 rfl rfl) rfl ?_) | (refine vl_v (q_lss_k Try.underlying3 rfl rfl) rfl ?_)
  refine vl_nil ?_
  refine (th_n ?_)
  refine VC_seq ?_
  refine VC_cond rfl (fun ht6 => ?_) (fun ht6 => ?_)
  · skip
    have ht6 := of_decide_eq_true ht6
    refine VC_skip ?_
    refine (th_n ?_)
    refine VC_seq ?_
    refine VC_block ?_
    refine VC_seq ?_
    refine VC_region ?_
    refine vl_v (q_move rfl) rfl ?_
    refine vl_v (q_assign rfl) rfl ?_
    refine vl_nil ?_
    refine (th_n ?_)
    have ht6 : i < 16 := ht6
    have hb1 := UInt8.toNat_lt (k.getD (2 * i) 0)
    have hb2 := UInt8.toNat_lt (k.getD (2 * i + 1) 0)
    refine VC_drawV 15 [[], [], [1], [2], [3], [4], [], [6], [7], [8], [9], [10], [11], [5, 12], [], [14, 0, 1, 2, 3, 4, 5, 6, 7, 8, 9, 10, 11, 12, 13], [15, 13, 0, 1, 2, 3, 4, 5, 6, 7, 8, 9, 10, 11, 12]] [[], [], [1], [1, 2], [1, 2, 3], [1, 2, 3, 4], [], [6], [6, 7], [6, 7, 8], [6, 7, 8, 9], [6, 7, 8, 9, 10], [6, 7, 8, 9, 10, 11], [1, 2, 3, 4, 5, 6, 7, 8, 9, 10, 11, 12], [], [0, 1, 2, 3, 4, 5, 6, 7, 8, 9, 10, 11, 12, 13, 14], [0, 1, 2, 3, 4, 5, 6, 7, 8, 9, 10, 11, 12, 13, 14, 15]] rfl (by kernel_rfl) ?_
    refine qv_v (q_move rfl) ?_
    refine qv_v (q_move rfl) ?_
    first | (refine qv_v (q_mul_n (p := 2) rfl rfl (by omega)) ?_) | (refine qv_v (q_mul_i rfl rfl (by omega) (by omega)) ?_)
    first | (refine qv_v (q_idxA Try.underlying23 sz5 rfl rfl (by omega) (r := _) (by rw [Nat.mul_one, Nat.zero_add])) ?_) | (refine qv_v (q_idxA Try.underlying23 sz5 rfl rfl (by omega) rfl) ?_)
    first | (refine qv_v (q_load 2 Try.underlying5 rfl rfl rfl (bys_at (by first | omega | with_reducible assumption | (simp only [bys_length, u32s_length, u64s_length, i64s_length, n64s_length, List.length_append]; omega) | (simp only [List.length_set, List.length_replicate, List.length_map, List.length_append, bys_length, u32s_length, u64s_length, i64s_length, List.length_take, List.length_drop, List.length_cons, List.length_nil, *] <;> first | done | omega) | rfl))) ?_) | (refine qv_v (q_load 2 Try.underlying5 rfl rfl rfl rfl) ?_)
    refine qv_v (q_conv_nn Try.underlying5 Try.underlying2 rfl (by omega)) ?_
    refine qv_v (q_move rfl) ?_
    first | (refine qv_v (q_mul_n (p := 2) rfl rfl (by omega)) ?_) | (refine qv_v (q_mul_i rfl rfl (by omega) (by omega)) ?_)
    first | (refine qv_v (q_add_n (q := 1) rfl rfl (by omega)) ?_) | (refine qv_v (q_add_i rfl rfl (by omega) (by omega)) ?_)
    first | (refine qv_v (q_idxA Try.underlying23 sz5 rfl rfl (by omega) (r := _) (by rw [Nat.mul_one, Nat.zero_add])) ?_) | (refine qv_v (q_idxA Try.underlying23 sz5 rfl rfl (by omega) rfl) ?_)
    first | (refine qv_v (q_load 2 Try.underlying5 rfl rfl rfl (bys_at (by first | omega | with_reducible assumption | (simp only [bys_length, u32s_length, u64s_length, i64s_length, n64s_length, List.length_append]; omega) | (simp only [List.length_set, List.length_replicate, List.length_map, List.length_append, bys_length, u32s_length, u64s_length, i64s_length, List.length_take, List.length_drop, List.length_cons, List.length_nil, *] <;> first | done | omega) | rfl))) ?_) | (refine qv_v (q_load 2 Try.underlying5 rfl rfl rfl rfl) ?_)
    refine qv_v (q_conv_nn Try.underlying5 Try.underlying2 rfl (by omega)) ?_
    refine qv_v (q_as (v := vI (((k.getD (2 * i + 1) 0).toNat : Int) * 256)) (q_shl_i (m := 8) rfl rfl (by decide) (by omega) (by omega)) rfl) ?_
    refine qv_v (q_or_b hb1 hb2 rfl rfl) ?_
    refine qv_v (q_fldA fo37_0 (by decide) rfl rfl) ?_
    refine qv_end ?_
    refine VL.keep (Sub.cons (s := 1) rfl (Sub.cons (s := 2) rfl (Sub.cons (s := 3) rfl (Sub.cons (s := 5) rfl (Sub.cons (s := 6) rfl (Sub.cons (s := 4) rfl (Sub.cons (s := 8) rfl (Sub.cons (s := 21) rfl (Sub.cons (s := 22) rfl (Sub.nil _)))))))))) ?_
    first | (refine vl_v (q_idxA Try.underlying35 sz2 rfl rfl (by omega) (r := _) (by rw [Nat.mul_one, Nat.zero_add])) rfl ?_) | (refine vl_v (q_idxA Try.underlying35 sz2 rfl rfl (by omega) rfl) rfl ?_)
    first | (refine l_stI 0 rfl rfl rfl sz2 (by first | omega | with_reducible assumption | (simp only [bys_length, u32s_length, u64s_length, i64s_length, n64s_length, List.length_append]; omega) | (simp only [List.length_set, List.length_replicate, List.length_map, List.length_append, bys_length, u32s_length, u64s_length, i64s_length, List.length_take, List.length_drop, List.length_cons, List.length_nil, *] <;> first | done | omega) | rfl) ?_) | (refine l_store1 0 rfl rfl rfl sz2 rfl (by first | decide | simp) ?_)
    simp only [List.set_cons_zero, List.set_cons_succ]
    refine vl_nil ?_
    refine (qn_n (bl_n (th_n ?_)))
    refine VC_region ?_
    first | (refine vl_v (q_add_n (q := 1) rfl rfl (by omega)) rfl ?_) | (refine vl_v (q_add_i rfl rfl (by omega) (by omega)) rfl ?_)
    refine vl_v (q_move rfl) rfl ?_
    refine vl_nil ?_
    refine (th_n ?_)
    refine ⟨i + 1, by omega, by omega, (Sub.cons (s := 1) rfl (Sub.cons (s := 2) rfl (Sub.cons (s := 3) rfl (Sub.cons (s := 5) rfl (Sub.nil _))))), fun w H => H⟩
  · skip
    have ht6 := of_decide_eq_false ht6
    obtain rfl : i = 16 := by omega
    refine VC_exit ?_
    refine (th_x (th_x (bl_xs (th_n ?_))))
    refine VC_seq ?_
    refine VC_region ?_
    refine vl_v (q_fldA fo37_0 (by decide) rfl rfl) rfl ?_
    first | (refine vl_v (q_idxA (m := 15) Try.underlying35 sz2 rfl rfl (by omega) (r := _) (by rw [Nat.mul_one, Nat.zero_add])) rfl ?_) | (refine vl_v (q_idxA (m := 15) Try.underlying35 sz2 rfl rfl (by omega) rfl) rfl ?_)
    first | (refine vl_v (q_load 0 Try.underlying2 rfl rfl rfl (i64s_at (by first | omega | with_reducible assumption | (simp only [bys_length, u32s_length, u64s_length, i64s_length, n64s_length, List.length_append]; omega) | (simp only [List.length_set, List.length_replicate, List.length_map, List.length_append, bys_length, u32s_length, u64s_length, i64s_length, List.length_take, List.length_drop, List.length_cons, List.length_nil, *] <;> first | done | omega) | rfl))) rfl ?_) | (refine vl_v (q_load 0 Try.underlying2 rfl rfl rfl rfl) rfl ?_)
    refine vl_v (q_and_i 15 (by omega) (by decide) rfl rfl) rfl ?_
    refine vl_v (q_fldA fo37_0 (by decide) rfl rfl) rfl ?_
    first | (refine vl_v (q_idxA (m := 15) Try.underlying35 sz2 rfl rfl (by omega) (r := _) (by rw [Nat.mul_one, Nat.zero_add])) rfl ?_) | (refine vl_v (q_idxA (m := 15) Try.underlying35 sz2 rfl rfl (by omega) rfl) rfl ?_)
    first | (refine l_stI 0 rfl rfl rfl sz2 (by first | omega | with_reducible assumption | (simp only [bys_length, u32s_length, u64s_length, i64s_length, n64s_length, List.length_append]; omega) | (simp only [List.length_set, List.length_replicate, List.length_map, List.length_append, bys_length, u32s_length, u64s_length, i64s_length, List.length_take, List.length_drop, List.length_cons, List.length_nil, *] <;> first | done | omega) | rfl) ?_) | (refine l_store1 0 rfl rfl rfl sz2 rfl (by first | decide | simp) ?_)
    simp only [List.set_cons_zero, List.set_cons_succ]
    refine vl_nil ?_
    refine (th_n ?_)
    refine VC_seq ?_
    rw [show (ofSt k 16).set 15 ((ofSt k 16).getD 15 0 % 2 ^ 15) = ofL k from rfl]
    refine VC_region ?_
    first | (refine vl_v (q_loads 0 Try.underlying37 rfl rfl rfl sz37 (by first | omega | with_reducible assumption | (simp only [bys_length, u32s_length, u64s_length, i64s_length, n64s_length, List.length_append]; omega) | (simp only [List.length_set, List.length_replicate, List.length_map, List.length_append, bys_length, u32s_length, u64s_length, i64s_length, List.length_take, List.length_drop, List.length_cons, List.length_nil, *] <;> first | done | omega) | rfl)) rfl ?_) | (refine vl_v (q_loadsAt 0 Try.underlying37 rfl rfl rfl sz37 (by rfl) (by first | omega | with_reducible assumption | (simp only [bys_length, u32s_length, u64s_length, i64s_length, n64s_length, List.length_append]; omega) | (simp only [List.length_set, List.length_replicate, List.length_map, List.length_append, bys_length, u32s_length, u64s_length, i64s_length, List.length_take, List.length_drop, List.length_cons, List.length_nil, *] <;> first | done | omega) | rfl)) rfl ?_)
    refine l_storeA 1 rfl rfl rfl sz37 (by first | omega | with_reducible assumption | (simp only [bys_length, u32s_length, u64s_length, i64s_length, n64s_length, List.length_append]; omega) | (simp only [List.length_set, List.length_replicate, List.length_map, List.length_append, bys_length, u32s_length, u64s_length, i64s_length, List.length_take, List.length_drop, List.length_cons, List.length_nil, *] <;> first | done | omega) | rfl) (by first | with_reducible exact bys_one _ | with_reducible exact u32s_one _ | with_reducible exact u64s_one _ | with_reducible exact i64s_one _ | with_reducible exact n64s_one _ | exact bys_one _ | exact u32s_one _ | exact u64s_one _ | exact i64s_one _ | with_reducible assumption | exact one_all rfl | (refine app_one ?_ ?_ <;> first | exact bys_one _ | (simp; done))) (by first | omega | with_reducible assumption | (simp only [bys_length, u32s_length, u64s_length, i64s_length, n64s_length, List.length_append]; omega) | (simp only [List.length_set, List.length_replicate, List.length_map, List.length_append, bys_length, u32s_length, u64s_length, i64s_length, List.length_take, List.length_drop, List.length_cons, List.length_nil, *] <;> first | done | omega) | rfl) ?_
    simp only [List.set_cons_zero, List.set_cons_succ]
    refine vl_nil ?_
    refine (th_n ?_)
    refine VC_ret ?_
    refine ⟨_, resC1 1 rfl Try.underlying37 rfl rfl rfl sz37 (by first | omega | with_reducible assumption | (simp only [bys_length, u32s_length, u64s_length, i64s_length, n64s_length, List.length_append]; omega) | (simp only [List.length_set, List.length_replicate, List.length_map, List.length_append, bys_length, u32s_length, u64s_length, i64s_length, List.length_take, List.length_drop, List.length_cons, List.length_nil, *] <;> first | done | omega) | rfl), ?_⟩
    exact rfl
set_option maxHeartbeats 2000000 in
theorem add_calls (e f : List Int) (he : okE e) (hf : okE f) (w : World) :
    Calls Try.prog 18 #[.agg (i64s e).toArray, .agg (i64s f).toArray] w fun e' w' => e' = .returned (.agg (i64s (addL e f)).toArray) ∧ Kept [] w w' := by
  have hel := he.1
  have hfl := hf.1
  have hal := (addL_okE he hf).1
  refine enter (n := 24) (R := fun e' L => e' = .returned (.agg (i64s (addL e f)).toArray)) [.agg (i64s e).toArray, .agg (i64s f).toArray] Try.func18 rfl rfl rfl (St.refl w) ?_ (fun e w' L' h H => ⟨h, H.kept⟩)
  refine VC_seq ?_
  refine VC_region ?_
  refine l_boxA rfl rfl ?_
  intro b2
  refine l_boxA rfl rfl ?_
  intro b3
  refine l_allocA zr37 rfl ?_
  intro b4
  refine vl_nil ?_
  refine (th_n ?_)
  refine VC_seq ?_
  refine VC_seq ?_
  refine VC_region ?_
  refine vl_v (q_fldA fo37_0 (by decide) rfl rfl) rfl ?_
  refine vl_v (q_loads 1 Try.underlying35 rfl rfl rfl sz35 (by rw [i64s_length]; exact hfl)) rfl ?_
  refine vl_v (q_move rfl) rfl ?_
  refine vl_nil ?_
  refine (th_n ?_)
  refine VC_block ?_
  refine VC_loop (ι := Nat) (fun i => i ≤ 16) (fun i => [(2, vP b2 0), (4, vP b4 0), (8, .agg (i64s f).toArray), (9, vN i)]) (fun i => [.blk b2 37 (i64s (addSt e f i)), .blk b4 37 (i64s (List.replicate 16 0))]) (fun i => 16 - i) 0 (by omega) (Sub.cons (s := 2) rfl (Sub.cons (s := 4) rfl (Sub.cons (s := 8) rfl (Sub.cons (s := 9) rfl (Sub.nil _))))) (fun w H => St.pick H (ks := [2, 0]) (by decide) rfl) ?_
  rintro i hp
  have hl := (addSt_length e f i).trans hel
  refine VC_seq ?_
  refine VC_region ?_
  first | (refine vl_v (q_lss_n (q := 16) Try.underlying3 rfl rfl) rfl ?_) | (refine vl_v (q_lss_k Try.underlying3 rfl rfl) rfl ?_)
  refine vl_nil ?_
  refine (th_n ?_)
  refine VC_seq ?_
  refine VC_cond rfl (fun ht10 => ?_) (fun ht10 => ?_)
  · skip
    have ht10 := of_decide_eq_true ht10
    refine VC_skip ?_
    refine (th_n ?_)
    refine VC_seq ?_
    refine VC_block ?_
    refine VC_seq ?_
    have ht10 : i < 16 := ht10
    have h1 := he.all i ht10
    have h2 := hf.all i ht10
    have hg := addSt_get (f := f) hel i (by omega) i
    rw [if_neg (show ¬ i < i by omega)] at hg
    refine VC_region ?_
    refine vl_v (q_move rfl) rfl ?_
    refine vl_v (q_idxV (m := i) Try.underlying35 Try.underlying2 rfl sz2 rfl rfl (by omega) (i64s_atT (by omega))) rfl ?_
    refine vl_v (q_assign rfl) rfl ?_
    refine vl_v (q_assign rfl) rfl ?_
    refine vl_nil ?_
    refine (th_n ?_)
    refine VC_region ?_
    refine vl_v (q_move rfl) rfl ?_
    refine vl_v (q_fldA fo37_0 (by decide) rfl rfl) rfl ?_
    first | (refine vl_v (q_idxA Try.underlying35 sz2 rfl rfl (by omega) (r := _) (by rw [Nat.mul_one, Nat.zero_add])) rfl ?_) | (refine vl_v (q_idxA Try.underlying35 sz2 rfl rfl (by omega) rfl) rfl ?_)
    first | (refine vl_v (q_load 0 Try.underlying2 rfl rfl rfl (i64s_at (by first | omega | with_reducible assumption | (simp only [bys_length, u32s_length, u64s_length, i64s_length, n64s_length, List.length_append]; omega) | (simp only [List.length_set, List.length_replicate, List.length_map, List.length_append, bys_length, u32s_length, u64s_length, i64s_length, List.length_take, List.length_drop, List.length_cons, List.length_nil, *] <;> first | done | omega) | rfl))) rfl ?_) | (refine vl_v (q_load 0 Try.underlying2 rfl rfl rfl rfl) rfl ?_)
    refine vl_v (q_move rfl) rfl ?_
    refine vl_v (q_add_i rfl rfl (by omega) (by omega)) rfl ?_
    refine vl_v (q_fldA fo37_0 (by decide) rfl rfl) rfl ?_
    first | (refine vl_v (q_idxA Try.underlying35 sz2 rfl rfl (by omega) (r := _) (by rw [Nat.mul_one, Nat.zero_add])) rfl ?_) | (refine vl_v (q_idxA Try.underlying35 sz2 rfl rfl (by omega) rfl) rfl ?_)
    first | (refine l_stI 0 rfl rfl rfl sz2 (by first | omega | with_reducible assumption | (simp only [bys_length, u32s_length, u64s_length, i64s_length, n64s_length, List.length_append]; omega) | (simp only [List.length_set, List.length_replicate, List.length_map, List.length_append, bys_length, u32s_length, u64s_length, i64s_length, List.length_take, List.length_drop, List.length_cons, List.length_nil, *] <;> first | done | omega) | rfl) ?_) | (refine l_store1 0 rfl rfl rfl sz2 rfl (by first | decide | simp) ?_)
    simp only [List.set_cons_zero, List.set_cons_succ]
    refine vl_nil ?_
    refine (bl_n (th_n ?_))
    refine VC_region ?_
    first | (refine vl_v (q_add_n (q := 1) rfl rfl (by omega)) rfl ?_) | (refine vl_v (q_add_i rfl rfl (by omega) (by omega)) rfl ?_)
    refine vl_v (q_move rfl) rfl ?_
    refine vl_nil ?_
    refine (th_n ?_)
    refine ⟨i + 1, by omega, by omega, (Sub.cons (s := 2) rfl (Sub.cons (s := 4) rfl (Sub.cons (s := 8) rfl (Sub.cons (s := 9) rfl (Sub.nil _))))), fun w H => H⟩
  · skip
    have ht10 := of_decide_eq_false ht10
    obtain rfl : i = 16 := by omega
    refine VC_exit ?_
    refine (th_x (th_x (bl_xs (th_n ?_))))
    refine VC_seq ?_
    refine VC_region ?_
    refine l_callE Try.func31 rfl rfl rfl (fun w1 H1 => carry_calls (addSt e f 16) b2 hl (fun j hj => by have h1 := he.all j hj; have h2 := hf.all j hj; have hg := addSt_get (f := f) hel 16 (by omega) j; rw [if_pos hj] at hg; omega) w1 H1) rfl ?_
    rw [show carryL (addSt e f 16) = addL e f from rfl]
    refine vl_nil ?_
    refine (th_n ?_)
    refine VC_seq ?_
    refine VC_region ?_
    first | (refine vl_v (q_loads 0 Try.underlying37 rfl rfl rfl sz37 (by first | omega | with_reducible assumption | (simp only [bys_length, u32s_length, u64s_length, i64s_length, n64s_length, List.length_append]; omega) | (simp only [List.length_set, List.length_replicate, List.length_map, List.length_append, bys_length, u32s_length, u64s_length, i64s_length, List.length_take, List.length_drop, List.length_cons, List.length_nil, *] <;> first | done | omega) | rfl)) rfl ?_) | (refine vl_v (q_loadsAt 0 Try.underlying37 rfl rfl rfl sz37 (by rfl) (by first | omega | with_reducible assumption | (simp only [bys_length, u32s_length, u64s_length, i64s_length, n64s_length, List.length_append]; omega) | (simp only [List.length_set, List.length_replicate, List.length_map, List.length_append, bys_length, u32s_length, u64s_length, i64s_length, List.length_take, List.length_drop, List.length_cons, List.length_nil, *] <;> first | done | omega) | rfl)) rfl ?_)
    refine l_storeA 1 rfl rfl rfl sz37 (by first | omega | with_reducible assumption | (simp only [bys_length, u32s_length, u64s_length, i64s_length, n64s_length, List.length_append]; omega) | (simp only [List.length_set, List.length_replicate, List.length_map, List.length_append, bys_length, u32s_length, u64s_length, i64s_length, List.length_take, List.length_drop, List.length_cons, List.length_nil, *] <;> first | done | omega) | rfl) (by first | with_reducible exact bys_one _ | with_reducible exact u32s_one _ | with_reducible exact u64s_one _ | with_reducible exact i64s_one _ | with_reducible exact n64s_one _ | exact bys_one _ | exact u32s_one _ | exact u64s_one _ | exact i64s_one _ | with_reducible assumption | exact one_all rfl | (refine app_one ?_ ?_ <;> first | exact bys_one _ | (simp; done))) (by first | omega | with_reducible assumption | (simp only [bys_length, u32s_length, u64s_length, i64s_length, n64s_length, List.length_append]; omega) | (simp only [List.length_set, List.length_replicate, List.length_map, List.length_append, bys_length, u32s_length, u64s_length, i64s_length, List.length_take, List.length_drop, List.length_cons, List.length_nil, *] <;> first | done | omega) | rfl) ?_
    simp only [List.set_cons_zero, List.set_cons_succ]
    refine vl_nil ?_
    refine (th_n ?_)
    refine VC_ret ?_
    refine ⟨_, resC1 1 rfl Try.underlying37 rfl rfl rfl sz37 (by first | omega | with_reducible assumption | (simp only [bys_length, u32s_length, u64s_length, i64s_length, n64s_length, List.length_append]; omega) | (simp only [List.length_set, List.length_replicate, List.length_map, List.length_append, bys_length, u32s_length, u64s_length, i64s_length, List.length_take, List.length_drop, List.length_cons, List.length_nil, *] <;> first | done | omega) | rfl), ?_⟩
    exact rfl
set_option maxHeartbeats 2000000 in
theorem sub_calls (e f : List Int) (he : okE e) (hf : okE f) (w : World) :
    Calls Try.prog 19 #[.agg (i64s e).toArray, .agg (i64s f).toArray] w fun e' w' => e' = .returned (.agg (i64s (subL e f)).toArray) ∧ Kept [] w w' := by
  have hel := he.1
  have hfl := hf.1
  have hal := (subL_okE he hf).1
  refine enter (n := 24) (R := fun e' L => e' = .returned (.agg (i64s (subL e f)).toArray)) [.agg (i64s e).toArray, .agg (i64s f).toArray] Try.func19 rfl rfl rfl (St.refl w) ?_ (fun e w' L' h H => ⟨h, H.kept⟩)
  refine VC_seq ?_
  refine VC_region ?_
  refine l_boxA rfl rfl ?_
  intro b2
  refine l_boxA rfl rfl ?_
  intro b3
  refine l_allocA zr37 rfl ?_
  intro b4
  refine vl_nil ?_
  refine (th_n ?_)
  refine VC_seq ?_
  refine VC_seq ?_
  refine VC_region ?_
  refine vl_v (q_fldA fo37_0 (by decide) rfl rfl) rfl ?_
  refine vl_v (q_loads 1 Try.underlying35 rfl rfl rfl sz35 (by rw [i64s_length]; exact hfl)) rfl ?_
  refine vl_v (q_move rfl) rfl ?_
  refine vl_nil ?_
  refine (th_n ?_)
  refine VC_block ?_
  refine VC_loop (ι := Nat) (fun i => i ≤ 16) (fun i => [(2, vP b2 0), (4, vP b4 0), (8, .agg (i64s f).toArray), (9, vN i)]) (fun i => [.blk b2 37 (i64s (subSt e f i)), .blk b4 37 (i64s (List.replicate 16 0))]) (fun i => 16 - i) 0 (by omega) (Sub.cons (s := 2) rfl (Sub.cons (s := 4) rfl (Sub.cons (s := 8) rfl (Sub.cons (s := 9) rfl (Sub.nil _))))) (fun w H => St.pick H (ks := [2, 0]) (by decide) rfl) ?_
  rintro i hp
  have hl := (subSt_length e f i).trans hel
  refine VC_seq ?_
  refine VC_region ?_
  first | (refine vl_v (q_lss_n (q := 16) Try.underlying3 rfl rfl) rfl ?_) | (refine vl_v (q_lss_k Try.underlying3 rfl rfl) rfl ?_)
  refine vl_nil ?_
  refine (th_n ?_)
  refine VC_seq ?_
  refine VC_cond rfl (fun ht10 => ?_) (fun ht10 => ?_)
  · skip
    have ht10 := of_decide_eq_true ht10
    refine VC_skip ?_
    refine (th_n ?_)
    refine VC_seq ?_
    refine VC_block ?_
    refine VC_seq ?_
    have ht10 : i < 16 := ht10
    have h1 := he.all i ht10
    have h2 := hf.all i ht10
    have hg := subSt_get (f := f) hel i (by omega) i
    rw [if_neg (show ¬ i < i by omega)] at hg
    refine VC_region ?_
    refine vl_v (q_move rfl) rfl ?_
    refine vl_v (q_idxV (m := i) Try.underlying35 Try.underlying2 rfl sz2 rfl rfl (by omega) (i64s_atT (by omega))) rfl ?_
    refine vl_v (q_assign rfl) rfl ?_
    refine vl_v (q_assign rfl) rfl ?_
    refine vl_nil ?_
    refine (th_n ?_)
    refine VC_region ?_
    refine vl_v (q_move rfl) rfl ?_
    refine vl_v (q_fldA fo37_0 (by decide) rfl rfl) rfl ?_
    first | (refine vl_v (q_idxA Try.underlying35 sz2 rfl rfl (by omega) (r := _) (by rw [Nat.mul_one, Nat.zero_add])) rfl ?_) | (refine vl_v (q_idxA Try.underlying35 sz2 rfl rfl (by omega) rfl) rfl ?_)
    first | (refine vl_v (q_load 0 Try.underlying2 rfl rfl rfl (i64s_at (by first | omega | with_reducible assumption | (simp only [bys_length, u32s_length, u64s_length, i64s_length, n64s_length, List.length_append]; omega) | (simp only [List.length_set, List.length_replicate, List.length_map, List.length_append, bys_length, u32s_length, u64s_length, i64s_length, List.length_take, List.length_drop, List.length_cons, List.length_nil, *] <;> first | done | omega) | rfl))) rfl ?_) | (refine vl_v (q_load 0 Try.underlying2 rfl rfl rfl rfl) rfl ?_)
    refine vl_v (q_move rfl) rfl ?_
    refine vl_v (q_sub_i rfl rfl (by omega) (by omega)) rfl ?_
    refine vl_v (q_fldA fo37_0 (by decide) rfl rfl) rfl ?_
    first | (refine vl_v (q_idxA Try.underlying35 sz2 rfl rfl (by omega) (r := _) (by rw [Nat.mul_one, Nat.zero_add])) rfl ?_) | (refine vl_v (q_idxA Try.underlying35 sz2 rfl rfl (by omega) rfl) rfl ?_)
    first | (refine l_stI 0 rfl rfl rfl sz2 (by first | omega | with_reducible assumption | (simp only [bys_length, u32s_length, u64s_length, i64s_length, n64s_length, List.length_append]; omega) | (simp only [List.length_set, List.length_replicate, List.length_map, List.length_append, bys_length, u32s_length, u64s_length, i64s_length, List.length_take, List.length_drop, List.length_cons, List.length_nil, *] <;> first | done | omega) | rfl) ?_) | (refine l_store1 0 rfl rfl rfl sz2 rfl (by first | decide | simp) ?_)
    simp only [List.set_cons_zero, List.set_cons_succ]
    refine vl_nil ?_
    refine (bl_n (th_n ?_))
    refine VC_region ?_
    first | (refine vl_v (q_add_n (q := 1) rfl rfl (by omega)) rfl ?_) | (refine vl_v (q_add_i rfl rfl (by omega) (by omega)) rfl ?_)
    refine vl_v (q_move rfl) rfl ?_
    refine vl_nil ?_
    refine (th_n ?_)
    refine ⟨i + 1, by omega, by omega, (Sub.cons (s := 2) rfl (Sub.cons (s := 4) rfl (Sub.cons (s := 8) rfl (Sub.cons (s := 9) rfl (Sub.nil _))))), fun w H => H⟩
  · skip
    have ht10 := of_decide_eq_false ht10
    obtain rfl : i = 16 := by omega
    refine VC_exit ?_
    refine (th_x (th_x (bl_xs (th_n ?_))))
    refine VC_seq ?_
    refine VC_region ?_
    refine l_callE Try.func31 rfl rfl rfl (fun w1 H1 => carry_calls (subSt e f 16) b2 hl (fun j hj => by have h1 := he.all j hj; have h2 := hf.all j hj; have hg := subSt_get (f := f) hel 16 (by omega) j; rw [if_pos hj] at hg; omega) w1 H1) rfl ?_
    rw [show carryL (subSt e f 16) = subL e f from rfl]
    refine vl_nil ?_
    refine (th_n ?_)
    refine VC_seq ?_
    refine VC_region ?_
    first | (refine vl_v (q_loads 0 Try.underlying37 rfl rfl rfl sz37 (by first | omega | with_reducible assumption | (simp only [bys_length, u32s_length, u64s_length, i64s_length, n64s_length, List.length_append]; omega) | (simp only [List.length_set, List.length_replicate, List.length_map, List.length_append, bys_length, u32s_length, u64s_length, i64s_length, List.length_take, List.length_drop, List.length_cons, List.length_nil, *] <;> first | done | omega) | rfl)) rfl ?_) | (refine vl_v (q_loadsAt 0 Try.underlying37 rfl rfl rfl sz37 (by rfl) (by first | omega | with_reducible assumption | (simp only [bys_length, u32s_length, u64s_length, i64s_length, n64s_length, List.length_append]; omega) | (simp only [List.length_set, List.length_replicate, List.length_map, List.length_append, bys_length, u32s_length, u64s_length, i64s_length, List.length_take, List.length_drop, List.length_cons, List.length_nil, *] <;> first | done | omega) | rfl)) rfl ?_)
    refine l_storeA 1 rfl rfl rfl sz37 (by first | omega | with_reducible assumption | (simp only [bys_length, u32s_length, u64s_length, i64s_length, n64s_length, List.length_append]; omega) | (simp only [List.length_set, List.length_replicate, List.length_map, List.length_append, bys_length, u32s_length, u64s_length, i64s_length, List.length_take, List.length_drop, List.length_cons, List.length_nil, *] <;> first | done | omega) | rfl) (by first | with_reducible exact bys_one _ | with_reducible exact u32s_one _ | with_reducible exact u64s_one _ | with_reducible exact i64s_one _ | with_reducible exact n64s_one _ | exact bys_one _ | exact u32s_one _ | exact u64s_one _ | exact i64s_one _ | with_reducible assumption | exact one_all rfl | (refine app_one ?_ ?_ <;> first | exact bys_one _ | (simp; done))) (by first | omega | with_reducible assumption | (simp only [bys_length, u32s_length, u64s_length, i64s_length, n64s_length, List.length_append]; omega) | (simp only [List.length_set, List.length_replicate, List.length_map, List.length_append, bys_length, u32s_length, u64s_length, i64s_length, List.length_take, List.length_drop, List.length_cons, List.length_nil, *] <;> first | done | omega) | rfl) ?_
    simp only [List.set_cons_zero, List.set_cons_succ]
    refine vl_nil ?_
    refine (th_n ?_)
    refine VC_ret ?_
    refine ⟨_, resC1 1 rfl Try.underlying37 rfl rfl rfl sz37 (by first | omega | with_reducible assumption | (simp only [bys_length, u32s_length, u64s_length, i64s_length, n64s_length, List.length_append]; omega) | (simp only [List.length_set, List.length_replicate, List.length_map, List.length_append, bys_length, u32s_length, u64s_length, i64s_length, List.length_take, List.length_drop, List.length_cons, List.length_nil, *] <;> first | done | omega) | rfl), ?_⟩
    exact rfl
set_option maxHeartbeats 4000000 in
theorem mul_calls (e f : List Int) (he : okE e) (hf : okE f) (w : World) :
    Calls Try.prog 20 #[.agg (i64s e).toArray, .agg (i64s f).toArray] w fun e' w' => e' = .returned (.agg (i64s (mulL e f)).toArray) ∧ Kept [] w w' := by
  have hel := he.1
  have hfl := hf.1
  have hal := (mulL_okE he hf).1
  have hml := mulOut_length e f
  refine enter (n := 55) (R := fun e' L => e' = .returned (.agg (i64s (mulL e f)).toArray)) [.agg (i64s e).toArray, .agg (i64s f).toArray] Try.func20 rfl rfl rfl (St.refl w) ?_ (fun e w' L' h H => ⟨h, H.kept⟩)
  refine VC_seq ?_
  refine VC_region ?_
  refine l_boxA rfl rfl ?_
  intro b2
  refine l_boxA rfl rfl ?_
  intro b3
  refine l_allocA zr37 rfl ?_
  intro b4
  refine vl_nil ?_
  refine (th_n ?_)
  refine VC_seq ?_
  refine VC_region ?_
  refine l_allocA zr49 rfl ?_
  intro b5
  refine vl_nil ?_
  refine (th_n ?_)
  refine VC_seq ?_
  refine VC_seq ?_
  refine VC_region ?_
  refine vl_v (q_fldA fo37_0 (by decide) rfl rfl) rfl ?_
  refine vl_v (q_loads 3 Try.underlying35 rfl rfl rfl sz35 (by rw [i64s_length]; exact hel)) rfl ?_
  refine vl_v (q_move rfl) rfl ?_
  refine vl_nil ?_
  refine (th_n ?_)
  refine VC_block ?_
  refine VC_loop (ι := Nat) (fun i => i ≤ 16) (fun i => [(3, vP b3 0), (4, vP b4 0), (5, vP b5 0), (13, .agg (i64s e).toArray), (14, vN i)]) (fun i => [.blk b5 49 (i64s (mulOut e f i)), .blk b4 37 (i64s (List.replicate 16 0)), .blk b3 37 (i64s f)]) (fun i => 16 - i) 0 (by omega) (Sub.cons (s := 3) rfl (Sub.cons (s := 4) rfl (Sub.cons (s := 5) rfl (Sub.cons (s := 13) rfl (Sub.cons (s := 14) rfl (Sub.nil _)))))) (fun w H => St.pick H (ks := [0, 1, 2]) (by decide) rfl) ?_
  rintro i hp
  refine VC_seq ?_
  refine VC_region ?_
  first | (refine vl_v (q_lss_n (q := 16) Try.underlying3 rfl rfl) rfl ?_) | (refine vl_v (q_lss_k Try.underlying3 rfl rfl) rfl ?_)
  refine vl_nil ?_
  refine (th_n ?_)
  refine VC_seq ?_
  refine VC_cond rfl (fun ht15 => ?_) (fun ht15 => ?_)
  · skip
    have ht15 := of_decide_eq_true ht15
    refine VC_skip ?_
    refine (th_n ?_)
    refine VC_seq ?_
    refine VC_block ?_
    refine VC_seq ?_
    refine VC_region ?_
    refine vl_v (q_move rfl) rfl ?_
    refine vl_v (q_idxV (m := i) Try.underlying35 Try.underlying2 rfl sz2 rfl rfl (by omega) (i64s_atT (by omega))) rfl ?_
    refine vl_v (q_assign rfl) rfl ?_
    refine vl_v (q_assign rfl) rfl ?_
    refine vl_nil ?_
    refine (th_n ?_)
    refine VC_seq ?_
    refine VC_region ?_
    refine vl_v (q_fldA fo37_0 (by decide) rfl rfl) rfl ?_
    refine vl_v (q_loads 2 Try.underlying35 rfl rfl rfl sz35 (by rw [i64s_length]; exact hfl)) rfl ?_
    refine vl_v (q_move rfl) rfl ?_
    refine vl_nil ?_
    refine (th_n ?_)
    refine VC_block ?_
    refine VC_loop (ι := Nat) (fun k => k ≤ 16) (fun k => [(3, vP b3 0), (4, vP b4 0), (5, vP b5 0), (6, vN i), (7, vI (e.getD i 0)), (13, .agg (i64s e).toArray), (14, vN i), (19, .agg (i64s f).toArray), (20, vN k)]) (fun k => [.blk b5 49 (i64s (mulIn e f i (mulOut e f i) k)), .blk b4 37 (i64s (List.replicate 16 0)), .blk b3 37 (i64s f)]) (fun k => 16 - k) 0 (by omega) (Sub.cons (s := 3) rfl (Sub.cons (s := 4) rfl (Sub.cons (s := 5) rfl (Sub.cons (s := 6) rfl (Sub.cons (s := 7) rfl (Sub.cons (s := 13) rfl (Sub.cons (s := 14) rfl (Sub.cons (s := 19) rfl (Sub.cons (s := 20) rfl (Sub.nil _)))))))))) (fun w H => H) ?_
    rintro k hp
    have hil := (mulIn_length e f i (mulOut e f i) k).trans (hml i)
    refine VC_seq ?_
    refine VC_region ?_
    first | (refine vl_v (q_lss_n (q := 16) Try.underlying3 rfl rfl) rfl ?_) | (refine vl_v (q_lss_k Try.underlying3 rfl rfl) rfl ?_)
    refine vl_nil ?_
    refine (th_n ?_)
    refine VC_seq ?_
    refine VC_cond rfl (fun ht21 => ?_) (fun ht21 => ?_)
    · skip
      have ht21 := of_decide_eq_true ht21
      refine VC_skip ?_
      refine (th_n ?_)
      refine VC_seq ?_
      refine VC_block ?_
      refine VC_seq ?_
      have ht15 : i < 16 := ht15
      have ht21 : k < 16 := ht21
      have hmb := (mulIn_bound (e := e) (f := f) (i := i) he.all hf.all (by omega) ht15 (hml i) (mulOut_bound he.all hf.all (by omega) i (by omega)) k (by omega) (i + k) (by omega)).1
      have hpb : -17179869184 ≤ e.getD i 0 * f.getD k 0 ∧ e.getD i 0 * f.getD k 0 ≤ 17179869184 := by have h2 : (e.getD i 0 * f.getD k 0).natAbs ≤ 131072 * 131072 := by {rw [Int.natAbs_mul]; have h3 := he.all i ht15; have h4 := hf.all k ht21; exact Nat.mul_le_mul (by omega) (by omega)}; omega
      refine VC_region ?_
      refine vl_v (q_move rfl) rfl ?_
      refine vl_v (q_idxV (m := k) Try.underlying35 Try.underlying2 rfl sz2 rfl rfl (by omega) (i64s_atT (by omega))) rfl ?_
      refine vl_v (q_assign rfl) rfl ?_
      refine vl_v (q_assign rfl) rfl ?_
      refine vl_nil ?_
      refine (th_n ?_)
      refine VC_region ?_
      refine vl_v (q_move rfl) rfl ?_
      refine vl_v (q_move rfl) rfl ?_
      first | (refine vl_v (q_add_n rfl rfl (by omega)) rfl ?_) | (refine vl_v (q_add_i rfl rfl (by omega) (by omega)) rfl ?_)
      first | (refine vl_v (q_idxA Try.underlying49 sz2 rfl rfl (by omega) (r := _) (by rw [Nat.mul_one, Nat.zero_add])) rfl ?_) | (refine vl_v (q_idxA Try.underlying49 sz2 rfl rfl (by omega) rfl) rfl ?_)
      first | (refine vl_v (q_load 0 Try.underlying2 rfl rfl rfl (i64s_at (by first | omega | with_reducible assumption | (simp only [bys_length, u32s_length, u64s_length, i64s_length, n64s_length, List.length_append]; omega) | (simp only [List.length_set, List.length_replicate, List.length_map, List.length_append, bys_length, u32s_length, u64s_length, i64s_length, List.length_take, List.length_drop, List.length_cons, List.length_nil, *] <;> first | done | omega) | rfl))) rfl ?_) | (refine vl_v (q_load 0 Try.underlying2 rfl rfl rfl rfl) rfl ?_)
      refine vl_v (q_move rfl) rfl ?_
      refine vl_v (q_move rfl) rfl ?_
      refine vl_v (q_mul_i rfl rfl (by omega) (by omega)) rfl ?_
      refine vl_v (q_add_i rfl rfl (by omega) (by omega)) rfl ?_
      first | (refine vl_v (q_idxA Try.underlying49 sz2 rfl rfl (by omega) (r := _) (by rw [Nat.mul_one, Nat.zero_add])) rfl ?_) | (refine vl_v (q_idxA Try.underlying49 sz2 rfl rfl (by omega) rfl) rfl ?_)
      first | (refine l_stI 0 rfl rfl rfl sz2 (by first | omega | with_reducible assumption | (simp only [bys_length, u32s_length, u64s_length, i64s_length, n64s_length, List.length_append]; omega) | (simp only [List.length_set, List.length_replicate, List.length_map, List.length_append, bys_length, u32s_length, u64s_length, i64s_length, List.length_take, List.length_drop, List.length_cons, List.length_nil, *] <;> first | done | omega) | rfl) ?_) | (refine l_store1 0 rfl rfl rfl sz2 rfl (by first | decide | simp) ?_)
      simp only [List.set_cons_zero, List.set_cons_succ]
      refine vl_nil ?_
      refine (bl_n (th_n ?_))
      refine VC_region ?_
      first | (refine vl_v (q_add_n (q := 1) rfl rfl (by omega)) rfl ?_) | (refine vl_v (q_add_i rfl rfl (by omega) (by omega)) rfl ?_)
      refine vl_v (q_move rfl) rfl ?_
      refine vl_nil ?_
      refine (th_n ?_)
      refine ⟨k + 1, by omega, by omega, (Sub.cons (s := 3) rfl (Sub.cons (s := 4) rfl (Sub.cons (s := 5) rfl (Sub.cons (s := 6) rfl (Sub.cons (s := 7) rfl (Sub.cons (s := 13) rfl (Sub.cons (s := 14) rfl (Sub.cons (s := 19) rfl (Sub.cons (s := 20) rfl (Sub.nil _)))))))))), fun w H => H⟩
    · skip
      have ht21 := of_decide_eq_false ht21
      obtain rfl : k = 16 := by omega
      refine VC_exit ?_
      refine (th_x (th_x (bl_xs (bl_n (th_n ?_)))))
      refine VC_region ?_
      first | (refine vl_v (q_add_n (q := 1) rfl rfl (by omega)) rfl ?_) | (refine vl_v (q_add_i rfl rfl (by omega) (by omega)) rfl ?_)
      refine vl_v (q_move rfl) rfl ?_
      refine vl_nil ?_
      refine (th_n ?_)
      refine ⟨i + 1, by omega, by omega, (Sub.cons (s := 3) rfl (Sub.cons (s := 4) rfl (Sub.cons (s := 5) rfl (Sub.cons (s := 13) rfl (Sub.cons (s := 14) rfl (Sub.nil _)))))), fun w H => H⟩
  · skip
    have ht15 := of_decide_eq_false ht15
    obtain rfl : i = 16 := by omega
    have hml16 := hml 16
    have hmb := mulOut_bound he.all hf.all (by omega) 16 (by omega)
    refine VC_exit ?_
    refine (th_x (th_x (bl_xs (th_n ?_))))
    refine VC_seq ?_
    refine VC_region ?_
    refine l_allocA zr37 rfl ?_
    intro b10
    refine vl_nil ?_
    refine (th_n ?_)
    refine VC_seq ?_
    refine VC_seq ?_
    refine VC_region ?_
    refine vl_v (q_move rfl) rfl ?_
    refine vl_nil ?_
    refine (th_n ?_)
    refine VC_block ?_
    refine VC_loop (ι := Nat) (fun i => i ≤ 16) (fun i => [(4, vP b4 0), (5, vP b5 0), (10, vP b10 0), (36, vN i)]) (fun i => [.blk b10 37 (i64s (foldSt (mulOut e f 16) i)), .blk b5 49 (i64s (mulOut e f 16)), .blk b4 37 (i64s (List.replicate 16 0))]) (fun i => 16 - i) 0 (by omega) (Sub.cons (s := 4) rfl (Sub.cons (s := 5) rfl (Sub.cons (s := 10) rfl (Sub.cons (s := 36) rfl (Sub.nil _))))) (fun w H => St.pick H (ks := [0, 1, 2]) (by decide) rfl) ?_
    rintro i hp
    have hfo := foldSt_length (mulOut e f 16) i
    refine VC_seq ?_
    refine VC_region ?_
    first | (refine vl_v (q_lss_n (q := 16) Try.underlying3 rfl rfl) rfl ?_) | (refine vl_v (q_lss_k Try.underlying3 rfl rfl) rfl ?_)
    refine vl_nil ?_
    refine (th_n ?_)
    refine VC_seq ?_
    refine VC_cond rfl (fun ht37 => ?_) (fun ht37 => ?_)
    · skip
      have ht37 := of_decide_eq_true ht37
      refine VC_skip ?_
      refine (th_n ?_)
      refine VC_seq ?_
      refine VC_block ?_
      refine VC_seq ?_
      refine VC_region ?_
      refine vl_v (q_move rfl) rfl ?_
      refine vl_v (q_assign rfl) rfl ?_
      refine vl_nil ?_
      refine (th_n ?_)
      have ht37 : i < 16 := ht37
      have hm1 := hmb i (by omega)
      have hm2 := hmb (i + 16) (by omega)
      refine VC_drawV 11 [[], [], [1], [2], [], [4], [5], [6], [7], [3, 8], [], [10, 0, 1, 2, 3, 4, 5, 6, 7, 8, 9], [11, 9, 0, 1, 2, 3, 4, 5, 6, 7, 8]] [[], [], [1], [1, 2], [], [4], [4, 5], [4, 5, 6], [4, 5, 6, 7], [1, 2, 3, 4, 5, 6, 7, 8], [], [0, 1, 2, 3, 4, 5, 6, 7, 8, 9, 10], [0, 1, 2, 3, 4, 5, 6, 7, 8, 9, 10, 11]] rfl (by kernel_rfl) ?_
      refine qv_v (q_move rfl) ?_
      refine qv_v (q_move rfl) ?_
      first | (refine qv_v (q_idxA Try.underlying49 sz2 rfl rfl (by omega) (r := _) (by rw [Nat.mul_one, Nat.zero_add])) ?_) | (refine qv_v (q_idxA Try.underlying49 sz2 rfl rfl (by omega) rfl) ?_)
      first | (refine qv_v (q_load 1 Try.underlying2 rfl rfl rfl (i64s_at (by first | omega | with_reducible assumption | (simp only [bys_length, u32s_length, u64s_length, i64s_length, n64s_length, List.length_append]; omega) | (simp only [List.length_set, List.length_replicate, List.length_map, List.length_append, bys_length, u32s_length, u64s_length, i64s_length, List.length_take, List.length_drop, List.length_cons, List.length_nil, *] <;> first | done | omega) | rfl))) ?_) | (refine qv_v (q_load 1 Try.underlying2 rfl rfl rfl rfl) ?_)
      refine qv_v (q_move rfl) ?_
      first | (refine qv_v (q_add_n (q := 16) rfl rfl (by omega)) ?_) | (refine qv_v (q_add_i rfl rfl (by omega) (by omega)) ?_)
      first | (refine qv_v (q_idxA Try.underlying49 sz2 rfl rfl (by omega) (r := _) (by rw [Nat.mul_one, Nat.zero_add])) ?_) | (refine qv_v (q_idxA Try.underlying49 sz2 rfl rfl (by omega) rfl) ?_)
      first | (refine qv_v (q_load 1 Try.underlying2 rfl rfl rfl (i64s_at (by first | omega | with_reducible assumption | (simp only [bys_length, u32s_length, u64s_length, i64s_length, n64s_length, List.length_append]; omega) | (simp only [List.length_set, List.length_replicate, List.length_map, List.length_append, bys_length, u32s_length, u64s_length, i64s_length, List.length_take, List.length_drop, List.length_cons, List.length_nil, *] <;> first | done | omega) | rfl))) ?_) | (refine qv_v (q_load 1 Try.underlying2 rfl rfl rfl rfl) ?_)
      refine qv_v (q_mul_i rfl rfl (by omega) (by omega)) ?_
      refine qv_v (q_add_i rfl rfl (by omega) (by omega)) ?_
      refine qv_v (q_fldA fo37_0 (by decide) rfl rfl) ?_
      refine qv_end ?_
      refine VL.keep (Sub.cons (s := 4) rfl (Sub.cons (s := 5) rfl (Sub.cons (s := 10) rfl (Sub.cons (s := 36) rfl (Sub.cons (s := 37) rfl (Sub.cons (s := 11) rfl (Sub.cons (s := 39) rfl (Sub.cons (s := 48) rfl (Sub.cons (s := 49) rfl (Sub.nil _)))))))))) ?_
      first | (refine vl_v (q_idxA Try.underlying35 sz2 rfl rfl (by omega) (r := _) (by rw [Nat.mul_one, Nat.zero_add])) rfl ?_) | (refine vl_v (q_idxA Try.underlying35 sz2 rfl rfl (by omega) rfl) rfl ?_)
      first | (refine l_stI 0 rfl rfl rfl sz2 (by first | omega | with_reducible assumption | (simp only [bys_length, u32s_length, u64s_length, i64s_length, n64s_length, List.length_append]; omega) | (simp only [List.length_set, List.length_replicate, List.length_map, List.length_append, bys_length, u32s_length, u64s_length, i64s_length, List.length_take, List.length_drop, List.length_cons, List.length_nil, *] <;> first | done | omega) | rfl) ?_) | (refine l_store1 0 rfl rfl rfl sz2 rfl (by first | decide | simp) ?_)
      simp only [List.set_cons_zero, List.set_cons_succ]
      refine vl_nil ?_
      refine (qn_n (bl_n (th_n ?_)))
      refine VC_region ?_
      first | (refine vl_v (q_add_n (q := 1) rfl rfl (by omega)) rfl ?_) | (refine vl_v (q_add_i rfl rfl (by omega) (by omega)) rfl ?_)
      refine vl_v (q_move rfl) rfl ?_
      refine vl_nil ?_
      refine (th_n ?_)
      refine ⟨i + 1, by omega, by omega, (Sub.cons (s := 4) rfl (Sub.cons (s := 5) rfl (Sub.cons (s := 10) rfl (Sub.cons (s := 36) rfl (Sub.nil _))))), fun w H => H⟩
    · skip
      have ht37 := of_decide_eq_false ht37
      obtain rfl : i = 16 := by omega
      refine VC_exit ?_
      refine (th_x (th_x (bl_xs (th_n ?_))))
      refine VC_seq ?_
      refine VC_region ?_
      refine l_callE Try.func31 rfl rfl rfl (fun w1 H1 => carry_calls (foldSt (mulOut e f 16) 16) b10 hfo (fold_bound he hf) w1 H1) rfl ?_
      refine vl_nil ?_
      refine (th_n ?_)
      refine VC_seq ?_
      refine VC_region ?_
      refine l_callE Try.func31 rfl rfl rfl (fun w1 H1 => carry_calls (carryL (foldSt (mulOut e f 16) 16)) b10 ((carryL_length _).trans hfo) (fold_bound2 he hf) w1 H1) rfl ?_
      rw [show carryL (carryL (foldSt (mulOut e f 16) 16)) = mulL e f from rfl]
      refine vl_nil ?_
      refine (th_n ?_)
      refine VC_seq ?_
      refine VC_region ?_
      first | (refine vl_v (q_loads 0 Try.underlying37 rfl rfl rfl sz37 (by first | omega | with_reducible assumption | (simp only [bys_length, u32s_length, u64s_length, i64s_length, n64s_length, List.length_append]; omega) | (simp only [List.length_set, List.length_replicate, List.length_map, List.length_append, bys_length, u32s_length, u64s_length, i64s_length, List.length_take, List.length_drop, List.length_cons, List.length_nil, *] <;> first | done | omega) | rfl)) rfl ?_) | (refine vl_v (q_loadsAt 0 Try.underlying37 rfl rfl rfl sz37 (by rfl) (by first | omega | with_reducible assumption | (simp only [bys_length, u32s_length, u64s_length, i64s_length, n64s_length, List.length_append]; omega) | (simp only [List.length_set, List.length_replicate, List.length_map, List.length_append, bys_length, u32s_length, u64s_length, i64s_length, List.length_take, List.length_drop, List.length_cons, List.length_nil, *] <;> first | done | omega) | rfl)) rfl ?_)
      refine l_storeA 2 rfl rfl rfl sz37 (by first | omega | with_reducible assumption | (simp only [bys_length, u32s_length, u64s_length, i64s_length, n64s_length, List.length_append]; omega) | (simp only [List.length_set, List.length_replicate, List.length_map, List.length_append, bys_length, u32s_length, u64s_length, i64s_length, List.length_take, List.length_drop, List.length_cons, List.length_nil, *] <;> first | done | omega) | rfl) (by first | with_reducible exact bys_one _ | with_reducible exact u32s_one _ | with_reducible exact u64s_one _ | with_reducible exact i64s_one _ | with_reducible exact n64s_one _ | exact bys_one _ | exact u32s_one _ | exact u64s_one _ | exact i64s_one _ | with_reducible assumption | exact one_all rfl | (refine app_one ?_ ?_ <;> first | exact bys_one _ | (simp; done))) (by first | omega | with_reducible assumption | (simp only [bys_length, u32s_length, u64s_length, i64s_length, n64s_length, List.length_append]; omega) | (simp only [List.length_set, List.length_replicate, List.length_map, List.length_append, bys_length, u32s_length, u64s_length, i64s_length, List.length_take, List.length_drop, List.length_cons, List.length_nil, *] <;> first | done | omega) | rfl) ?_
      simp only [List.set_cons_zero, List.set_cons_succ]
      refine vl_nil ?_
      refine (th_n ?_)
      refine VC_ret ?_
      refine ⟨_, resC1 2 rfl Try.underlying37 rfl rfl rfl sz37 (by first | omega | with_reducible assumption | (simp only [bys_length, u32s_length, u64s_length, i64s_length, n64s_length, List.length_append]; omega) | (simp only [List.length_set, List.length_replicate, List.length_map, List.length_append, bys_length, u32s_length, u64s_length, i64s_length, List.length_take, List.length_drop, List.length_cons, List.length_nil, *] <;> first | done | omega) | rfl), ?_⟩
      exact rfl
end Go.Proofs.Ytjllcdgnmdieoaa
